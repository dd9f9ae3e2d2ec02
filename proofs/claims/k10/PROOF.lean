import PyProof.Rows.All
import Wide.All
import OpenK.AllK
import Wide.FinOn
import HandS.ForMost
import HandS.TupAny
import HandS.IsInst
import HandS.Walk
import HandS.Small
import HandS.Conv
import HandS.Style
import HandS.DictComp
import PyProof.Rows.StrFirst
import PySem.Challenge.RW_seamsight_k10_marks_and_states
set_option Elab.async false
set_option linter.all false
set_option maxRecDepth 100000
set_option maxHeartbeats 4000000
namespace My
open PySem PySem.Spec PyProof.Rows L2

/-! ## texts as lists of codes -/
abbrev S (l : List Nat) : Str := ⟨l.toArray⟩
theorem S_len (l : List Nat) : (S l).length = l.length := by simp [Str.length]
theorem S_tl (l : List Nat) : (S l).cps.toList = l := rfl
theorem exS (x : Str) : x = S x.cps.toList := (TL.mk_tl x).symm
theorem S_inj {a b : List Nat} : S a = S b ↔ a = b := by
  constructor
  · intro h
    have := congrArg (fun x : Str => x.cps.toList) h
    simpa using this
  · intro h
    rw [h]
theorem S_app (a b : List Nat) : S a ++ S b = S (a ++ b) := TL.ext_tl (by rw [TL.tl_append])
theorem S_cut (l : List Nat) (lo hi : Option Int) : cutS (S l) lo hi = S ((l.drop (HT.sIx l.length 0 lo)).take (HT.sIx l.length l.length hi - HT.sIx l.length 0 lo)) := by
  unfold cutS
  rw [S_len]
def cutL {α : Type} (l : List α) (lo hi : Option Int) : List α := (l.drop (HT.sIx l.length 0 lo)).take (HT.sIx l.length l.length hi - HT.sIx l.length 0 lo)
theorem cutV_map {α : Type} (f : α → V) (l : List α) (lo hi : Option Int) : cutV (l.map f) lo hi = (cutL l lo hi).map f := by
  unfold cutV cutL
  rw [List.length_map, ← List.map_drop, ← List.map_take]
abbrev vS (l : List Nat) : V := .str (S l)
theorem line_eq : sizeLine = 16777216 := sizeLine_eq

/-! ## operations on texts, told by lists -/
def zAddS : R2 := fun x y H Q => ∃ a b, x = vS a ∧ y = vS b ∧ a.length + b.length ≤ 16777216 ∧ Q (vS (a ++ b)) H
theorem op_addS {X : Cx} : OpR X (binaryOp .Add) zAddS := by
  intro pins s σ H x y v u Q I rx ry h
  obtain ⟨a, b, rfl, rfl, hz, q⟩ := h
  refine op_add_str pins s σ H _ _ v u Q I rx ry ⟨S a, S b, rfl, rfl, by rw [S_len, S_len, line_eq]; exact hz, ?_⟩
  rw [S_app]
  exact q
theorem foldl_app (x : Array Nat) : ∀ (n : Nat) (a : Array Nat), (List.replicate n x).foldl (· ++ ·) a = (a.toList ++ (List.replicate n x.toList).flatten).toArray
  | 0, a => by simp
  | n + 1, a => by
    rw [List.replicate_succ, List.foldl_cons, foldl_app x n (a ++ x), List.replicate_succ, List.flatten_cons, Array.toList_append, List.append_assoc]
def rep {α : Type} (n : Int) (l : List α) : List α := (List.replicate n.toNat l).flatten
theorem rep_len {α : Type} (n : Int) (l : List α) : (rep n l).length = n.toNat * l.length := by
  unfold rep
  simp
def zMulS : R2 := fun x y H Q => ∃ (l : List Nat) (n : Int), x = vS l ∧ y = .int n ∧ -100000000 ≤ n ∧ n ≤ 100000000 ∧ l.length * n.toNat ≤ 16777216 ∧ Q (vS (rep n l)) H
theorem op_mulS {X : Cx} : OpR X (binaryOp .Mult) zMulS := by
  intro pins s σ H x y v u Q I rx ry h
  obtain ⟨l, n, rfl, rfl, h1, h2, hz, q⟩ := h
  obtain ⟨t, rfl⟩ := rx
  obtain ⟨t', rfl⟩ := ry
  refine PySem.P.mul_str (x := S l) (n := n) ?_ (fun g1 g2 => ?_) (fun g1 g2 => ?_) ?_
  · have e1 : ¬ n < -(2 ^ 63 : Int) := by omega
    have e2 : ¬ n ≥ (2 ^ 63 : Int) := by omega
    rw [decide_eq_false e1, decide_eq_false e2]
    rfl
  · rw [S_len]
    have hn : 1 ≤ n := by omega
    intro hgt
    have hle : (l.length : Int) * n ≤ 16777216 := by
      have e : ((l.length * n.toNat : Nat) : Int) ≤ ((16777216 : Nat) : Int) := Int.ofNat_le.mpr hz
      have e2 : ((n.toNat : Nat) : Int) = n := by omega
      rw [Int.natCast_mul, e2] at e
      exact e
    have hl : (l.length : Int) ≤ 16777216 := by
      have hmul : (l.length : Int) * 1 ≤ (l.length : Int) * n := Int.mul_le_mul_of_nonneg_left hn (by omega)
      omega
    have hdiv : (16777216 : Int) ≤ (2 ^ 63 - 1) / n := by
      rw [Int.le_ediv_iff_mul_le (by omega)]
      omega
    omega
  · rw [S_len]
    unfold Builtin.Str.tooLong
    rw [line_eq]
    exact decide_eq_false (by omega)
  · by_cases hn : n < 1
    · rw [if_pos hn]
      refine ⟨by decide, vS (rep n l), H, I.tok _, ?_, q⟩
      have e0 : n.toNat = 0 := by omega
      refine ⟨s.toks, ?_⟩
      show Value.str Str.empty s.toks = Value.str (S (rep n l)) _
      unfold rep
      rw [e0]
      rfl
    · rw [if_neg hn]
      by_cases he : (n == 1 || (S l).length == 0) = true
      · rw [if_pos he]
        have er : rep n l = l := by
          unfold rep
          simp only [Bool.or_eq_true, beq_iff_eq, S_len] at he
          rcases he with e | e
          · subst e
            simp
          · have : l = [] := List.eq_nil_of_length_eq_zero e
            subst this
            simp
        refine ⟨vS (rep n l), H, I, ⟨t, by rw [er]⟩, q⟩
      · rw [if_neg he]
        have ec : (⟨(List.replicate n.toNat (S l).cps).foldl (· ++ ·) #[]⟩ : Str) = S (rep n l) := by
          rw [foldl_app]
          rfl
        rw [ec]
        refine ⟨by rw [S_len, rep_len, Nat.mul_comm, line_eq]; exact hz, vS (rep n l), H, I.tok _, ⟨_, rfl⟩, q⟩

/-! ## enumerate of a text -/
def Ites (x : Str) : It := ⟨fun i _ => i < x.cps.size, fun i H v H' => ∃ T c, v = .ref T ∧ H T = none ∧ H' = upd H T (.tup [.int (i : Nat), .str ⟨#[c]⟩]) ∧ x.cps[i]? = some c, fun i _ => i = x.cps.size⟩
theorem turn_enumS {P : Program} {w : World} {K : PySem.W.Frag} {elts : List Expr} {kk : Nat} {tpos : Pos} (e it : Addr) (x : Str) (t : Tok) (ty : String) (hty : ty = "str_ascii_iterator" ∨ ty = "str_iterator") :
    Turn P w K (.Tuple elts kk tpos) (Ites x) [e, it] e (fun i h => (∃ old, IsEnum h e it ((i : Nat) : Int) old) ∧ h.IsStrIter it ty x t i ∧ e ≠ it) where
  mem := by simp
  obj := fun i h st b hb => by
    obtain ⟨⟨old, he⟩, ⟨o, ho, hc, hd⟩, _⟩ := st
    have e' : b = e ∨ b = it := by simpa using hb
    rcases e' with z | z
    · rw [z]; exact ⟨_, he, fun v q => nomatch q⟩
    · rw [z]; exact ⟨o, ho, fun v q => by rw [hd] at q; cases q⟩
  keep := fun i h h' st k => let ⟨⟨old, he⟩, ⟨o, ho, r⟩, hne⟩ := st; ⟨⟨old, k e (by simp) _ he⟩, ⟨o, k it (by simp) o ho, r⟩, hne⟩
  item := by
    intro X hP hw hK hc i pins s σ H E I hf st hg
    subst hP hw hK
    obtain ⟨⟨old, he⟩, hit, hne⟩ := st
    have hel : e < s.heap.objs.size := Heap.lt_size he
    have hil : it < s.heap.objs.size := by obtain ⟨_, q, _⟩ := hit; exact Heap.lt_size q
    have D : Draws X.prog X.w X.A.in1 it [it] x.cps.size (fun i v => ∃ c u, x.cps[i]? = some c ∧ v = .str ⟨#[c]⟩ u) (fun i h => h.IsStrIter it ty x t i) := by
      rcases hty with q | q
      · rw [q]; exact Draws.strAscii (A := X.A.in1) (I.ok.hd hc) it x t
      · rw [q]; exact Draws.strWide (A := X.A.in1) (I.ok.hd hc) it x t
    refine wpAny_pyNext_enum_itemD D he hit hg hne (by simpa using hne) fun v h' tk hv ho hit' hT hsz hk => ?_
    obtain ⟨c, u, hcx, rfl⟩ := hv
    refine ⟨_, rfl, wpAny_letOwnedTupleGo_enum (s := { s with heap := h', toks := tk + 1 }) ho fun h'' he' sb => ?_⟩
    have hT2 : h''.get? s.heap.objs.size = some { cls := .type "tuple", data := .seq #[.int i tk, .str ⟨#[c]⟩ u] } := (sb.2 _ (Nat.ne_of_gt hel)).trans hT
    have new : ObjOk X.prog X.w (upd H s.heap.objs.size (.tup [.int (i : Nat), .str ⟨#[c]⟩])) h'' s.heap.objs.size (.tup [.int (i : Nat), .str ⟨#[c]⟩]) :=
      ⟨by show 2 ≤ sizeLine; decide, [.int i tk, .str ⟨#[c]⟩ u], .cons ⟨_, rfl⟩ (.cons ⟨_, rfl⟩ .nil), ⟨_, hT2, rfl, _, rfl⟩⟩
    have I1 : Inv X pins σ (upd H s.heap.objs.size (.tup [.int (i : Nat), .str ⟨#[c]⟩])) { s with heap := h'', toks := tk + 1 } :=
      I.turnedNew (ch := [e, it]) (fun b ob hb q => (sb.2 b (fun z => hb (by simp [z]))).trans (hk b ob (fun z => hb (by simp [z])) (fun z => hb (by simp [z])) q)) hf (Nat.le_refl _) new
    refine ⟨.ref s.heap.objs.size, _, I1, rfl, ⟨_, c, rfl, I.hok.fresh (Nat.le_refl _), rfl, hcx⟩, ⟨⟨.str ⟨#[c]⟩ u, ?_⟩, ?_, hne⟩, fun b hb => ?_⟩
    · have e1 : ((i + 1 : Nat) : Int) = (i : Int) + 1 := by omega
      rw [e1]; exact he'
    · obtain ⟨o, q, r⟩ := hit'
      exact ⟨o, (sb.2 it (Ne.symm hne)).trans q, r⟩
    · have hb' : b < s.heap.objs.size := by
        have e' : b = e ∨ b = it := by simpa using hb
        rcases e' with z | z
        · rw [z]; exact hel
        · rw [z]; exact hil
      rw [upd_ne (Nat.ne_of_lt hb')]
      exact (hf b hb).1
  done := by
    intro X hP hw hK hc i pins s σ H E I hf st hg
    subst hP hw hK
    obtain ⟨⟨old, he⟩, hit, hne⟩ := st
    obtain ⟨f0, f1, f2, f3, f4, f5⟩ := hf it (by simp)
    have hi : i = x.cps.size := hg
    subst hi
    have D : Draws X.prog X.w X.A.in1 it [it] x.cps.size (fun i v => ∃ c u, x.cps[i]? = some c ∧ v = .str ⟨#[c]⟩ u) (fun i h => h.IsStrIter it ty x t i) := by
      rcases hty with q | q
      · rw [q]; exact Draws.strAscii (A := X.A.in1) (I.ok.hd hc) it x t
      · rw [q]; exact Draws.strWide (A := X.A.in1) (I.ok.hd hc) it x t
    exact wpAny_pyNext_enum_endD D he hit fun h' eb => ⟨rfl, I.turned (t' := s.toks) (fun b o hb q => eb b o hb q) f0 f1 f3 f4 f5⟩
  self := fun A i s Q E st h => let ⟨⟨_, he⟩, _⟩ := st; wpAny_pyIter_enum he h
def iEnumS (ta : TA) : TI := fun σ H R => ta σ H fun vs H1 => ∃ x, vs = [.str x] ∧ R (Ites x) H1
theorem pi_enumS {X : Cx} {e : Expr} {ta : TA} {p pos tpos : Pos} {elts : List Expr} {kk : Nat} (hg : Gl X "enumerate") (hm : X.mg "enumerate" = none) (ha : PA X [e] ta) (hs : starEach [e] X.env = [(false, eval e X.env)] := by rfl) :
    PI X (.Tuple elts kk tpos) (.Call (.Name "enumerate" p) [e] [] pos) (iEnumS ta) := by
  refine ⟨fun pins s σ H R I h => ?_⟩
  refine Call_ (ld_blt I hg hm boot_enumerate (PyProof.Rows.callWith_type1 (thn (ha.run pos pins s σ H _ I h) fun us s1 ⟨vs, H1, I1, r1, q1⟩ => ?_) hs rfl))
  obtain ⟨x, ex, q⟩ := q1
  subst ex
  cases r1 with
  | cons r rr =>
    cases rr
    obtain ⟨t, rfl⟩ := r
    refine call_enumerate_str fun h' he hit hsz hk => wpAny_pyIter_enum he ?_
    have I2 : Inv X pins σ H1 { s1 with heap := h' } := I1.kept (t' := s1.toks) hk
    have hty : strIterType x = "str_ascii_iterator" ∨ strIterType x = "str_iterator" := by
      unfold strIterType
      cases x.cps.all (· < 128) <;> simp
    refine ⟨s1.heap.objs.size + 1, [s1.heap.objs.size + 1, s1.heap.objs.size], _, _, H1, rfl, I2, turn_enumS (s1.heap.objs.size + 1) s1.heap.objs.size x t _ hty, ⟨⟨.none, he⟩, hit, Nat.succ_ne_self _⟩, fun b hb => ?_, q⟩
    have e' : b = s1.heap.objs.size + 1 ∨ b = s1.heap.objs.size := by simpa using hb
    have hle : s1.heap.objs.size ≤ b := by
      rcases e' with z | z
      · rw [z]; exact Nat.le_add_right _ _
      · rw [z]; exact Nat.le_refl _
    exact I1.fpOk hle (I1.hok.fresh hle)
theorem for_enumS {l : List Nat} {g : TG} {tb : TS} {D : Ends} {σ : L2.St} {H : Hp} (Pv : Nat → L2.St → Hp → Prop) (h0 : Pv 0 σ H)
    (hs : ∀ i c σ H T, l[i]? = some c → Pv i σ H → H T = none → g (.ref T) σ (upd H T (.tup [.int (i : Nat), vS [c]])) fun σ2 H2 => tb { D with nx := Pv (i + 1), ct := Pv (i + 1), bk := D.nx } σ2 H2) (hd : ∀ σ H, Pv l.length σ H → D.nx σ H) :
    ∃ W : Nat → Nat → L2.St → Hp → Prop, (∃ m, W 0 m σ H) ∧ ∀ i m σ H, W i m σ H →
      ((Ites (S l)).stop i H ∧ D.nx σ H) ∨ ((Ites (S l)).go i H ∧ ∃ N : L2.St → Hp → Prop, (∀ σ' H', N σ' H' → ∃ m', m' < m ∧ W (i + 1) m' σ' H') ∧ ∀ x H', (Ites (S l)).yld i H x H' → g x σ H' fun σ2 H2 => tb { D with nx := N, ct := N, bk := D.nx } σ2 H2) := by
  refine ⟨fun i m σ H => m = l.length - i ∧ i ≤ l.length ∧ Pv i σ H, ⟨l.length, by simp, Nat.zero_le _, h0⟩, ?_⟩
  rintro i m σ H ⟨rfl, hi, p⟩
  by_cases hlt : i < l.length
  · refine .inr ⟨by simpa [Ites] using hlt, Pv (i + 1), fun σ' H' p' => ⟨l.length - (i + 1), by omega, rfl, hlt, p'⟩, fun x H' y => ?_⟩
    obtain ⟨T, c, rfl, hT, rfl, hc⟩ := y
    exact hs i c σ H T (by simpa using hc) p hT
  · have e : i = l.length := by omega
    subst e
    exact .inl ⟨by simp [Ites], hd σ H p⟩

/-! ## named rules -/
def zEqI : R2 := rI0 fun i j => .bl (decide (i = j))
def zNeI : R2 := rI0 fun i j => .bl (!decide (i = j))
def zEqS : R2 := fun x y H Q => ∃ a b : List Nat, x = vS a ∧ y = vS b ∧ Q (.bl (decide (a = b))) H
def zNeS : R2 := fun x y H Q => ∃ a b : List Nat, x = vS a ∧ y = vS b ∧ Q (.bl (!decide (a = b))) H
theorem dec_I {i j : Int} : decide (V.int i = V.int j) = decide (i = j) := by
  by_cases h : i = j
  · subst h; simp
  · rw [decide_eq_false h, decide_eq_false (fun e => h (V.int.inj e))]
theorem dec_S {a b : List Nat} : decide (vS a = vS b) = decide (a = b) := by
  by_cases h : a = b
  · subst h; simp
  · rw [decide_eq_false h, decide_eq_false (fun e => h (S_inj.mp (V.str.inj e)))]
section
variable {X : Cx}
theorem op_eqI : OpR X (compareOp .Eq) zEqI := by
  intro pins s σ H x y v u Q I rx ry h
  obtain ⟨i, j, rfl, rfl, q⟩ := h
  exact op_eq pins s σ H _ _ v u Q I rx ry ⟨rfl, by rw [dec_I]; exact q⟩
theorem op_neI : OpR X (compareOp .NotEq) zNeI := by
  intro pins s σ H x y v u Q I rx ry h
  obtain ⟨i, j, rfl, rfl, q⟩ := h
  exact op_ne pins s σ H _ _ v u Q I rx ry ⟨rfl, by rw [dec_I]; exact q⟩
theorem op_eqS : OpR X (compareOp .Eq) zEqS := by
  intro pins s σ H x y v u Q I rx ry h
  obtain ⟨i, j, rfl, rfl, q⟩ := h
  exact op_eq pins s σ H _ _ v u Q I rx ry ⟨rfl, by rw [dec_S]; exact q⟩
theorem op_neS : OpR X (compareOp .NotEq) zNeS := by
  intro pins s σ H x y v u Q I rx ry h
  obtain ⟨i, j, rfl, rfl, q⟩ := h
  exact op_ne pins s σ H _ _ v u Q I rx ry ⟨rfl, by rw [dec_S]; exact q⟩
def zLenS : List V → Hp → VK → Prop := fun xs H Q => ∃ l, xs = [vS l] ∧ l.length ≤ 16777216 ∧ Q (.int l.length) H
theorem call_lenS : CallR X (.builtin "len") zLenS := by
  intro pins s σ H xs us Q I r h
  obtain ⟨l, rfl, hz, q⟩ := h
  refine call_len_str pins s σ H _ us Q I r ⟨S l, rfl, by rw [S_len, line_eq]; exact hz, ?_⟩
  rw [S_len]
  exact q
def zLenQ (K : PySem.W.Frag) : List V → Hp → VK → Prop := fun xs H Q => ∃ p ys, xs = [.ref p] ∧ (SqL K H p ys ∨ SqT K H p ys) ∧ Q (.int ys.length) H
theorem call_lenQ : CallR X (.builtin "len") (zLenQ X.K) := call_len_seq
def zInt1 : List V → Hp → VK → Prop := fun xs H Q => ∃ i, xs = [.int i] ∧ Q (.int i) H
theorem call_intI : CallR X (.type "int") zInt1 := by
  intro pins s σ H xs us Q I r h
  obtain ⟨i, rfl, q⟩ := h
  exact call_int1 pins s σ H _ us Q I r (.inl ⟨i, rfl, q⟩)
def zAbs : List V → Hp → VK → Prop := fun xs H Q => ∃ i : Int, xs = [.int i] ∧ Q (.int (i.natAbs : Int)) H
theorem call_absI : CallR X (.builtin "abs") zAbs := by
  intro pins s σ H xs us Q I r h
  obtain ⟨i, rfl, q⟩ := h
  refine call_abs pins s σ H _ us Q I r ⟨i, rfl, ?_⟩
  have e : (if i < 0 then -i else i) = (i.natAbs : Int) := by
    split <;> omega
  rw [e]
  exact q
def zMin2 : List V → Hp → VK → Prop := fun xs H Q => ∃ i j : Int, xs = [.int i, .int j] ∧ Q (.int (min i j)) H
theorem call_minI (hc : X.calm = true) : CallR X (.builtin "min") zMin2 := by
  intro pins s σ H xs us Q I r h
  obtain ⟨i, j, rfl, q⟩ := h
  refine call_min2 hc pins s σ H _ us Q I r ⟨i, j, rfl, ?_⟩
  have e : (if j < i then j else i) = min i j := by
    split <;> omega
  rw [e]
  exact q
def zIxS : R2 := fun x y H Q => ∃ (l : List Nat) (i : Int) (c : Nat), x = vS l ∧ y = .int i ∧ l.length ≤ 16777216 ∧ atI l i = some c ∧ Q (vS [c]) H
theorem ix_S : IxR X zIxS := by
  intro value slice pins s σ H x y v u Q I rx ry h hs
  obtain ⟨l, i, c, rfl, rfl, hz, ha, q⟩ := h
  refine ix_str value slice pins s σ H _ _ v u Q I rx ry ⟨S l, i, c, rfl, rfl, by rw [S_len, line_eq]; exact hz, ha, q⟩ hs
def zSlS : V → Option Int → Option Int → Hp → VK → Prop := fun x lo hi H Q => ∃ l, x = vS l ∧ l.length ≤ 16777216 ∧ Q (vS (cutL l lo hi)) H
theorem sl_S : SlR X zSlS := by
  intro pins s σ H x v vl vu lo hi sl Q I rx hs pl pu h
  obtain ⟨l, rfl, hz, q⟩ := h
  refine sl_str pins s σ H _ v vl vu lo hi sl Q I rx hs pl pu ⟨S l, rfl, by rw [S_len, line_eq]; exact hz, ?_⟩
  rw [S_cut]
  exact q
/-- a text not in a list of texts -/
theorem eqV_S {a b : List Nat} : eqV (vS a) (vS b) = decide (a = b) := by
  show decide (S a = S b) = decide (a = b)
  by_cases h : a = b
  · subst h; simp
  · rw [decide_eq_false h, decide_eq_false (fun e => h (S_inj.mp e))]
theorem inV_S (a : List Nat) (bs : List (List Nat)) : inV (vS a) (bs.map vS) = decide (a ∈ bs) := by
  induction bs with
  | nil => rfl
  | cons b r ih =>
    show (eqV (vS b) (vS a) || inV (vS a) (r.map vS)) = _
    rw [ih, eqV_S]
    by_cases h : b = a
    · subst h; simp
    · have h' : ¬ a = b := fun e => h e.symm
      rw [decide_eq_false h]
      simp [h']
theorem flat_S (bs : List (List Nat)) : (bs.map vS).all flatV = true := by
  rw [List.all_eq_true]
  intro x hx
  obtain ⟨b, _, rfl⟩ := List.mem_map.mp hx
  rfl
def zNinL (K : PySem.W.Frag) : R2 := fun x y H Q => ∃ (a : List Nat) (p : Addr) (bs : List (List Nat)), x = vS a ∧ y = .ref p ∧ (SqL K H p (bs.map vS) ∨ SqT K H p (bs.map vS)) ∧ Q (.bl (!decide (a ∈ bs))) H
theorem op_ninL : OpR X (compareOp .NotIn) (zNinL X.K) := by
  intro pins s σ H x y v u Q I rx ry h
  obtain ⟨a, p, bs, rfl, rfl, hp, q⟩ := h
  refine op_notIn_seq pins s σ H _ _ v u Q I rx ry ⟨p, bs.map vS, rfl, hp, rfl, flat_S bs, ?_⟩
  show Q (.bl (!inV (vS a) (bs.map vS))) H
  rw [inV_S]
  exact q
theorem joinL_nil : ∀ xs : List (List Nat), TL.joinL [] xs = xs.flatten
  | [] => rfl
  | [a] => by simp [TL.joinL]
  | a :: b :: r => by
    have ih := joinL_nil (b :: r)
    simp only [TL.joinL, List.nil_append, List.flatten_cons] at ih ⊢
    first | done | rw [ih]
/-- "".join(a list or tuple of texts) -/
def zJoin0 (K : PySem.W.Frag) : V → List V → Hp → VK → Prop := fun x xs H Q => ∃ (p : Addr) (ys : List (List Nat)), x = vS [] ∧ xs = [.ref p] ∧ (SqL K H p (ys.map vS) ∨ SqT K H p (ys.map vS)) ∧ ys.flatten.length ≤ 16777216 ∧ Q (vS ys.flatten) H
theorem map_S (ys : List (List Nat)) : ys.map vS = (ys.map S).map V.str := by
  rw [List.map_map]
  rfl
theorem mt_join0 : MtR X "str.join" (zJoin0 X.K) := by
  intro pins s σ H x xs v us Q I rx rs h
  obtain ⟨p, ys, rfl, rfl, hp, hz, q⟩ := h
  refine mt_join pins s σ H _ _ v us Q I rx rs ⟨S [], p, ys.map S, rfl, rfl, by rw [← map_S]; exact hp, ?_, ?_⟩
  · have e1 : (S []).length = 0 := rfl
    have e2 : ((ys.map S).map (·.length)).sum = ys.flatten.length := by
      rw [List.map_map, List.length_flatten]
      congr 1



    rw [e1, e2]
    exact hz
  · have e : Txt.join (S []) (ys.map S) = S ys.flatten := by
      rw [TL.join_eq]
      apply TL.ext_tl
      rw [TL.tl_join, List.map_map]
      have e3 : TL.tl (S []) = [] := rfl
      have e4 : ys.map (TL.tl ∘ S) = ys := by
        conv => rhs; rw [← List.map_id ys]
        rfl
      rw [e3, e4, joinL_nil]
    rw [e]
    exact q
/-- sorted(a list of texts), fewer than 64 -/
def zSortedS (K : PySem.W.Frag) : List V → Hp → VK → Prop := fun vs H Q => ∃ (a : Addr) (xs : List (List Nat)), vs = [V.ref a] ∧ SqL K H a (xs.map vS) ∧ xs.length < 64 ∧
  ∀ (ys : List (List Nat)) (p : Addr), ys.Perm xs → sortedS (ys.map S) = true → H p = none → Q (.ref p) (upd H p (.lst (ys.map vS)))
theorem cr_sortedT : CallR X (.builtin "sorted") (zSortedS X.K) := by
  intro pins s σ H vs us Q I r h
  obtain ⟨a, xs, rfl, hs, h64, q⟩ := h
  refine cr_sortedS pins s σ H _ us Q I r ⟨a, xs.map S, rfl, by rw [← map_S]; exact hs, by rw [List.length_map]; exact h64, fun ys p h1 h2 h3 => ?_⟩
  have e : ys.map V.str = (ys.map (fun y => y.cps.toList)).map vS := by
    rw [List.map_map]
    apply List.map_congr_left
    intro y _
    show V.str y = V.str (S y.cps.toList)
    rw [← exS]
  have e2 : (ys.map (fun y => y.cps.toList)).map S = ys := by
    rw [List.map_map]
    conv => rhs; rw [← List.map_id ys]
    apply List.map_congr_left
    intro y _
    exact (exS y).symm
  rw [e]
  refine q _ p ?_ ?_ h3
  · have h4 := h1.map (fun y : Str => y.cps.toList)
    have e5 : (xs.map S).map (fun y : Str => y.cps.toList) = xs := by
      rw [List.map_map]
      conv => rhs; rw [← List.map_id xs]
      rfl
    rw [e5] at h4
    exact h4
  · rw [e2]
    exact h2
/-- a test by truth, named -/
def tTru (K : PySem.W.Frag) (ta : TE) : TT := fun σ H Q => ta σ H fun x H' => ∃ k, TruV K x H' k ∧ Q k H'
theorem pt_tru {a : Expr} {ta : TE} (ha : PE X a ta) (he : ∀ whole, isTrue a X.env whole = (do let v ← whole; standAt a.pos; holding [v] (truthy v))) : PT X a (tTru X.K ta) := pt_truth ha he
theorem pe_strL {x : Str} {j pos} (l : List Nat) (h : x = S l) : PE X (.Constant (.str x) j pos) (tC (vS l)) := by
  have e := pe_str (X := X) (x := x) (j := j) (pos := pos)
  rw [h] at e ⊢
  exact e
end

/-! ## steps -/
section
variable {σ : L2.St} {H : Hp} {Q : VK} {D : Ends} {ta tb te tc : TE} {t u : TS} {g : TG} {v : V} {K : PySem.W.Frag}
theorem w_seq (h : t { D with nx := u D } σ H) : tSeq t u D σ H := h
theorem w_asg (h : te σ H (fun x H1 => g x σ H1 D.nx)) : tAsg te g D σ H := h
theorem w_gName {i : Nat} {Q : L2.St → Hp → Prop} (h : Q (σ.set i (some v)) H) : gName i v σ H Q := h
theorem w_gTup {K : PySem.W.Frag} {n : Nat} {ts : TGs} {a : Addr} {xs : List V} {Q : L2.St → Hp → Prop} (h1 : SqT K H a xs) (h2 : xs.length = n) (h : ts xs σ H Q) : gTup K n ts (.ref a) σ H Q := ⟨a, xs, rfl, h1, h2, h⟩
theorem w_gCons {t : TG} {u : TGs} {vs : List V} {Q : L2.St → Hp → Prop} (h : t v σ H fun σ' H' => u vs σ' H' Q) : gCons t u (v :: vs) σ H Q := ⟨v, vs, rfl, h⟩
theorem w_gNil {Q : L2.St → Hp → Prop} (h : Q σ H) : gNil [] σ H Q := ⟨rfl, h⟩
theorem w_gSub {to ti : TE} {ts : TSet} {Q : L2.St → Hp → Prop} (h : to σ H fun o H1 => ti σ H1 fun i H2 => ts o i v H2 fun H3 => Q σ H3) : gSub to ti ts v σ H Q := h
theorem w_var {i : Nat} (h1 : σ[i]? = some (some v)) (h : Q v H) : tVar i σ H Q := ⟨v, h1, h⟩
theorem w_c (h : Q v H) : tC v σ H Q := h
theorem w_op {r : R2} (h : ta σ H fun x H1 => tb σ H1 fun y H2 => r x y H2 Q) : tOp r ta tb σ H Q := h
theorem w_un {r : V → Hp → VK → Prop} (h : ta σ H fun x H1 => r x H1 Q) : tUn r ta σ H Q := h
theorem w_nil {Q : List V → Hp → Prop} (h : Q [] H) : tNil σ H Q := h
theorem w_cons {tr : TA} {Q : List V → Hp → Prop} (h : ta σ H fun x H1 => tr σ H1 fun xs H2 => Q (x :: xs) H2) : tCons ta tr σ H Q := h
theorem w_CB {r : List V → Hp → VK → Prop} {t : TA} (h : t σ H fun vs H1 => r vs H1 Q) : tCB r t σ H Q := h
theorem w_call {sp : Sp} {E : XK} {t : TA} (h : t σ H fun vs H1 => sp vs H1 Q E) : tCall sp [] E t σ H Q := by
  have e : (fun vs H1 => sp (vs ++ []) H1 Q E) = (fun vs H1 => sp vs H1 Q E) := by
    funext vs H1
    rw [List.append_nil]
  show t σ H fun vs H1 => sp (vs ++ []) H1 Q E
  rw [e]
  exact h
theorem w_drop (h : te σ H fun _ H1 => D.nx σ H1) : tDrop te D σ H := h
theorem w_ret (h : te σ H D.rt) : tRet te D σ H := h
theorem w_retN (h : D.rt .non H) : tRetN D σ H := h
theorem w_next (h : D.nx σ H) : tNext D σ H := h
theorem w_brk (h : D.bk σ H) : tBreak D σ H := h
theorem w_cont (h : D.ct σ H) : tCont D σ H := h
theorem w_if {c : TT} (h : c σ H fun b H1 => if b = true then t D σ H1 else u D σ H1) : tIfS c t u D σ H := h
def blQ (x : V) (H : Hp) (Q : Bool → Hp → Prop) : Prop := ∃ k, x = .bl k ∧ Q k H
theorem w_test {Q : Bool → Hp → Prop} (h : te σ H fun x H' => blQ x H' Q) : tTest te σ H Q := h
theorem w_tB {Q : Bool → Hp → Prop} (h : te σ H fun x H' => blQ x H' Q) : tB te σ H Q := h
theorem w_exbl {k : Bool} {Q : Bool → Hp → Prop} (h : Q k H) : blQ (.bl k) H Q := ⟨k, rfl, h⟩
theorem w_and {t u : TT} {Q : Bool → Hp → Prop} (h : t σ H fun c H1 => if c = true then u σ H1 Q else Q false H1) : tAnd t u σ H Q := h
theorem w_or {t u : TT} {Q : Bool → Hp → Prop} (h : t σ H fun c H1 => if c = true then Q true H1 else u σ H1 Q) : tOr t u σ H Q := h
theorem w_not {t : TT} {Q : Bool → Hp → Prop} (h : t σ H fun c H1 => Q (!c) H1) : tNot t σ H Q := h
theorem w_andV (h : ta σ H fun x H1 => blQ x H1 fun c H1 => if c = true then tb σ H1 Q else Q (.bl false) H1) : tAndV ta tb σ H Q := h
theorem w_orV (h : ta σ H fun x H1 => blQ x H1 fun c H1 => if c = true then Q (.bl true) H1 else tb σ H1 Q) : tOrV ta tb σ H Q := h
theorem w_notV (h : ta σ H fun x H1 => blQ x H1 fun c H1 => Q (.bl (!c)) H1) : tNotV ta σ H Q := h
theorem w_ifE {c : TT} (h : c σ H fun b H1 => if b = true then ta σ H1 Q else tb σ H1 Q) : tIf c ta tb σ H Q := h
def newQ (f : List V → HO) (xs : List V) (H : Hp) (Q : VK) : Prop := xs.length ≤ sizeLine ∧ ∀ p, H p = none → Q (.ref p) (upd H p (f xs))
theorem w_tup {t : TA} (h : t σ H fun xs H1 => newQ .tup xs H1 Q) : tTup t σ H Q := h
theorem w_lst {t : TA} (h : t σ H fun xs H1 => newQ .lst xs H1 Q) : tLst t σ H Q := h
theorem w_new {xs : List V} {f : List V → HO} (hl : xs.length ≤ 16777216) (h : ∀ p, H p = none → Q (.ref p) (upd H p (f xs))) : newQ f xs H Q := ⟨by rw [line_eq]; exact hl, h⟩
theorem w_sl {r : V → Option Int → Option Int → Hp → VK → Prop} {tl th : TO} (h : te σ H fun x H1 => tl σ H1 fun l H2 => th σ H2 fun u H3 => r x l u H3 Q) : tSl r te tl th σ H Q := h
theorem w_nopart {Q : Option Int → Hp → Prop} (h : Q none H) : tNoPart σ H Q := h
def intQ (x : V) (H : Hp) (Q : Option Int → Hp → Prop) : Prop := ∃ i, x = .int i ∧ Q (some i) H
theorem w_part {Q : Option Int → Hp → Prop} (h : te σ H fun x H1 => intQ x H1 Q) : tPart te σ H Q := h
theorem w_exint {i : Int} {Q : Option Int → Hp → Prop} (h : Q (some i) H) : intQ (.int i) H Q := ⟨i, rfl, h⟩
def tyQ (K : PySem.W.Frag) (T : String) (x : V) (H : Hp) (P : Prop) : Prop := tyV K T x H ∧ P
theorem w_BM {T : String} {r : V → List V → Hp → VK → Prop} {to : TE} {t : TA} (h : to σ H fun x H1 => tyQ K T x H1 (t σ H1 fun xs H2 => r x xs H2 Q)) : tBM K T r to t σ H Q := h
theorem w_BM0 {T : String} {r : V → List V → Hp → VK → Prop} {to : TE} (h : to σ H fun x H1 => tyQ K T x H1 (r x [] H1 Q)) : tBM0 K T r to σ H Q := h
theorem w_tyL {a : Addr} {xs : List V} {P : Prop} (h1 : H a = some (.lst xs)) (h : P) : tyQ K "list" (.ref a) H P := ⟨.inl ⟨rfl, _, SqL.of h1⟩, h⟩
def strQ (x : V) (P : Prop) : Prop := (∃ a, x = .str a) ∧ P
theorem w_M0 {r : V → List V → Hp → VK → Prop} (h : ta σ H fun x H1 => strQ x (r x [] H1 Q)) : tM0 r ta σ H Q := h
theorem w_M1 {r : V → List V → Hp → VK → Prop} (h : ta σ H fun x H1 => strQ x (te σ H1 fun y H2 => r x [y] H2 Q)) : tM1 r ta te σ H Q := h
theorem w_exstr {l : List Nat} {P : Prop} (h : P) : strQ (vS l) P := ⟨⟨_, rfl⟩, h⟩
def truQ (K : PySem.W.Frag) (x : V) (H : Hp) (Q : Bool → Hp → Prop) : Prop := ∃ k, TruV K x H k ∧ Q k H
theorem w_tru {Q : Bool → Hp → Prop} (h : ta σ H fun x H' => truQ K x H' Q) : tTru K ta σ H Q := h
theorem w_truL {a : Addr} {xs : List V} {Q : Bool → Hp → Prop} (h1 : SqL K H a xs) (h : Q (!xs.isEmpty) H) : truQ K (.ref a) H Q := ⟨_, .inl ⟨xs, h1, rfl⟩, h⟩
theorem w_truT {a : Addr} {xs : List V} {Q : Bool → Hp → Prop} (h1 : SqT K H a xs) (h : Q (!xs.isEmpty) H) : truQ K (.ref a) H Q := ⟨_, .inr (.inl ⟨xs, h1, rfl⟩), h⟩
theorem w_truS {l : List Nat} {Q : Bool → Hp → Prop} (h1 : l.length ≤ 16777216) (h : Q (!l.isEmpty) H) : truQ K (vS l) H Q := by
  refine ⟨_, ⟨by rw [S_len, line_eq]; exact h1, rfl⟩, ?_⟩
  rw [S_len]
  cases l with
  | nil => exact h
  | cons a r =>
    have e : (((a :: r).length : Int) != 0) = true := by
      simp
      omega
    rw [e]
    exact h
theorem w_rI0 {f : Int → Int → V} {i j : Int} (h : Q (f i j) H) : rI0 f (.int i) (.int j) H Q := ⟨i, j, rfl, rfl, h⟩
theorem w_rI {C : Int → Int → Prop} {f : Int → Int → V} {i j : Int} (hc : C i j) (h : Q (f i j) H) : rI C f (.int i) (.int j) H Q := ⟨i, j, rfl, rfl, hc, h⟩
theorem w_rU {f : Int → V} {i : Int} (h : Q (f i) H) : rU f (.int i) H Q := ⟨i, rfl, h⟩
theorem w_eqI {i j : Int} (h : Q (.bl (decide (i = j))) H) : zEqI (.int i) (.int j) H Q := ⟨i, j, rfl, rfl, h⟩
theorem w_neI {i j : Int} (h : Q (.bl (!decide (i = j))) H) : zNeI (.int i) (.int j) H Q := ⟨i, j, rfl, rfl, h⟩
theorem w_eqS {a b : List Nat} (h : Q (.bl (decide (a = b))) H) : zEqS (vS a) (vS b) H Q := ⟨a, b, rfl, rfl, h⟩
theorem w_neS {a b : List Nat} (h : Q (.bl (!decide (a = b))) H) : zNeS (vS a) (vS b) H Q := ⟨a, b, rfl, rfl, h⟩
theorem w_addS {a b : List Nat} (hc : a.length + b.length ≤ 16777216) (h : Q (vS (a ++ b)) H) : zAddS (vS a) (vS b) H Q := ⟨a, b, rfl, rfl, hc, h⟩
theorem w_mulS {a : List Nat} {n : Int} (h1 : -100000000 ≤ n) (h2 : n ≤ 100000000) (hc : a.length * n.toNat ≤ 16777216) (h : Q (vS (rep n a)) H) : zMulS (vS a) (.int n) H Q := ⟨a, n, rfl, rfl, h1, h2, hc, h⟩
theorem w_lenS {l : List Nat} (hc : l.length ≤ 16777216) (h : Q (.int l.length) H) : zLenS [vS l] H Q := ⟨l, rfl, hc, h⟩
theorem w_lenL {a : Addr} {xs : List V} (h1 : SqL K H a xs) (h : Q (.int xs.length) H) : zLenQ K [.ref a] H Q := ⟨a, xs, rfl, .inl h1, h⟩
theorem w_lenT {a : Addr} {xs : List V} (h1 : SqT K H a xs) (h : Q (.int xs.length) H) : zLenQ K [.ref a] H Q := ⟨a, xs, rfl, .inr h1, h⟩
theorem w_int {i : Int} (h : Q (.int i) H) : zInt1 [.int i] H Q := ⟨i, rfl, h⟩
theorem w_abs {i : Int} (h : Q (.int (i.natAbs : Int)) H) : zAbs [.int i] H Q := ⟨i, rfl, h⟩
theorem w_min {i j : Int} (h : Q (.int (min i j)) H) : zMin2 [.int i, .int j] H Q := ⟨i, j, rfl, h⟩
theorem w_ixS {l : List Nat} {i : Int} {c : Nat} (h1 : l.length ≤ 16777216) (h2 : atI l i = some c) (h : Q (vS [c]) H) : zIxS (vS l) (.int i) H Q := ⟨l, i, c, rfl, rfl, h1, h2, h⟩
theorem w_ixL {a : Addr} {xs : List V} {i : Int} (h1 : SqL K H a xs) (h2 : atI xs i = some v) (h : Q v H) : rIxL K (.ref a) (.int i) H Q := ⟨a, xs, i, v, rfl, rfl, h1, h2, h⟩
theorem w_ixT {a : Addr} {xs : List V} {i : Int} (h1 : SqT K H a xs) (h2 : atI xs i = some v) (h : Q v H) : rIxT K (.ref a) (.int i) H Q := ⟨a, xs, i, v, rfl, rfl, h1, h2, h⟩
theorem w_slS {l : List Nat} {lo hi : Option Int} (h1 : l.length ≤ 16777216) (h : Q (vS (cutL l lo hi)) H) : zSlS (vS l) lo hi H Q := ⟨l, rfl, h1, h⟩
theorem w_slL {a : Addr} {xs : List V} {lo hi : Option Int} (h1 : SqL K H a xs) (h : ∀ p, H p = none → Q (.ref p) (upd H p (.lst (cutL xs lo hi)))) : rSlL K (.ref a) lo hi H Q := ⟨a, xs, rfl, h1, h⟩
theorem w_append {l : Addr} {xs : List V} (h1 : H l = some (.lst xs)) (h2 : xs.length < 16777216) (h : Q .non (upd H l (.lst (xs ++ [v])))) : rAppend (.ref l) [v] H Q := ⟨l, xs, v, rfl, rfl, h1, by rw [line_eq]; exact h2, h⟩
theorem w_pop {l : Addr} {xs : List V} (h1 : H l = some (.lst (xs ++ [v]))) (h : Q v (upd H l (.lst xs))) : rPop (.ref l) [] H Q := ⟨l, xs ++ [v], v, rfl, rfl, h1, by simp, by rw [List.dropLast_concat]; exact h⟩
theorem w_setL {p : Addr} {xs : List V} {k : Int} {j : Nat} {Q : Hp → Prop} (h1 : H p = some (.lst xs)) (h2 : ixN xs.length k = some j) (h : Q (upd H p (.lst (xs.set j v)))) : rSetL (.ref p) (.int k) v H Q := ⟨p, xs, k, j, rfl, rfl, h1, h2, h⟩
theorem w_tupOfL {a : Addr} {xs : List V} (h1 : SqL K H a xs) (h : ∀ l, H l = none → Q (.ref l) (upd H l (.tup xs))) : ∃ p ys, [V.ref a] = [.ref p] ∧ ((SqL K H p ys ∧ ∀ l, H l = none → Q (.ref l) (upd H l (.tup ys))) ∨ (SqT K H p ys ∧ Q (.ref p) H)) := ⟨a, xs, rfl, .inl ⟨h1, h⟩⟩
theorem w_join0 {p : Addr} {ys : List (List Nat)} (h1 : SqL K H p (ys.map vS)) (h2 : ys.flatten.length ≤ 16777216) (h : Q (vS ys.flatten) H) : zJoin0 K (vS []) [.ref p] H Q := ⟨p, ys, rfl, rfl, .inl h1, h2, h⟩
theorem w_ninL {a : List Nat} {p : Addr} {bs : List (List Nat)} (h1 : SqL K H p (bs.map vS)) (h : Q (.bl (!decide (a ∈ bs))) H) : zNinL K (vS a) (.ref p) H Q := ⟨a, p, bs, rfl, rfl, .inl h1, h⟩
theorem w_sortedT {p : Addr} {xs : List (List Nat)} (h1 : SqL K H p (xs.map vS)) (h2 : xs.length < 64) (h : ∀ (ys : List (List Nat)) (p : Addr), ys.Perm xs → sortedS (ys.map S) = true → H p = none → Q (.ref p) (upd H p (.lst (ys.map vS)))) : zSortedS K [.ref p] H Q := ⟨p, xs, rfl, h1, h2, h⟩
theorem st_is {t : TS} {σ' : L2.St} (e : σ' = σ) (h : t D σ H) : t D σ' H := e ▸ h
end
/-! ## heaps -/
section
variable {H H' : Hp} {a b p l : Addr} {o u : HO} {xs : List V} {K : PySem.W.Frag}
theorem get_ne (h : b ≠ a) (e : H b = some u) : upd H a o b = some u := by rw [upd_ne h]; exact e
theorem none_ne (h : b ≠ a) (e : H b = none) : upd H a o b = none := by rw [upd_ne h]; exact e
theorem none_of_upd (h : upd H a o b = none) : H b = none ∧ b ≠ a := by
  by_cases e : b = a
  · subst e
    rw [upd_same] at h
    cases h
  · rw [upd_ne e] at h
    exact ⟨h, e⟩
theorem same_new (h : H p = none) : Same H (upd H p o) := fun b x e => by
  rw [upd_ne (ne_of_none e h)]
  exact e
/-- tuples (and what is locked) stay: every step of a run keeps them -/
def Tx (H H' : Hp) : Prop := ∀ b o, ((∃ xs, o = .tup xs) ∨ ∃ ob u, o = .frz ob u) → H b = some o → H' b = some o
theorem Tx.refl (H : Hp) : Tx H H := fun _ _ _ h => h
theorem Tx.trans {H1 H2 H3 : Hp} (x : Tx H1 H2) (y : Tx H2 H3) : Tx H1 H3 := fun b o k h => y b o k (x b o k h)
theorem Tx.of_same (s : Same H H') : Tx H H' := fun b o _ h => s b o h
theorem Tx.new {H0 : Hp} (x : Tx H0 H) (h : H p = none) : Tx H0 (upd H p o) := fun b u k e => by
  have e2 := x b u k e
  rw [upd_ne (ne_of_none e2 h)]
  exact e2
theorem Tx.lst {H0 : Hp} (x : Tx H0 H) (h : H l = some (.lst xs)) : Tx H0 (upd H l o) := fun b u k e => by
  have e2 := x b u k e
  have n : b ≠ l := by
    refine ne_of e2 h ?_
    rcases k with ⟨_, rfl⟩ | ⟨_, _, rfl⟩ <;> intro z <;> cases z
  rw [upd_ne n]
  exact e2
theorem Tx.sqT (x : Tx H H') (h : SqT K H a xs) : SqT K H' a xs := by
  rcases h with (h | ⟨o, h⟩) | h
  · exact .inl (.inl (x _ _ (.inl ⟨_, rfl⟩) h))
  · exact .inl (.inr ⟨o, x _ _ (.inr ⟨_, _, rfl⟩) h⟩)
  · exact .inr h
/-- all but the lists at p and g stays -/
def Kp (p g : Addr) (H H' : Hp) : Prop := ∀ b o, b ≠ p → b ≠ g → H b = some o → H' b = some o
theorem Kp.refl (p g : Addr) (H : Hp) : Kp p g H H := fun _ _ _ _ h => h
theorem Kp.trans {p g : Addr} {H1 H2 H3 : Hp} (x : Kp p g H1 H2) (y : Kp p g H2 H3) : Kp p g H1 H3 := fun b o k1 k2 h => y b o k1 k2 (x b o k1 k2 h)
theorem Kp.of_same {p g : Addr} (s : Same H H') : Kp p g H H' := fun b o _ _ h => s b o h
end

/-! ## a def that may be called -/
structure Cal (P : Program) (w : World) (K : PySem.W.Frag) (mg : Str → Option Value) (base : Heap) (k : Nat) (x : Str) (sp : Sp) : Prop where
  ex : ∃ (f : Addr) (fd : FuncData) (ps : List Str), FnOk P w K mg base CX0 k f fd ps sp ∧ mg x = some (.ref f) ∧ PySem.W.keepIn K (.ref f) = true ∧ Binds K fd ps []
theorem pe_c {X : Cx} {k j : Nat} {x : Str} {sp : Sp} {p pos : Pos} {e : Expr} {es : List Expr} {t : TA} (c : Cal X.prog X.w X.K X.mg X.base k x sp) (hr : Room j X.A) (hk : k ≤ j) (hg : Gl X x) (ha : PA X (e :: es) t)
    (hdb : (x == ("__debug__" : Str)) = false := by decide) (he : starEach (e :: es) X.env = (false, eval e X.env) :: starEach es X.env := by rfl) (hpl : (backTo pos (starEach es X.env)).any (·.1) = false := by rfl) :
    PE X (.Call (.Name x p) (e :: es) [] pos) (tCall sp [] E0 t) := by
  obtain ⟨f, fd, ps, F, hm, kp, b⟩ := c.ex
  exact pe_call F (hr.mono hk) hg hm kp b .nil pass0 ha hdb he hpl
/-- where the def stands -/
structure At (K : PySem.W.Frag) (mg : Str → Option Value) (x : Str) (st : Stmt) : Prop where
  ex : ∃ (f : Addr) (fd : FuncData), Fun K x x st f fd ∧ mg x = some (.ref f) ∧ ∀ ps : List Str, (∀ (kV doc pm : Value) (an : Option Addr) (cdv ct : Value) (us : List Value), us.length = ps.length → bindArgs (PySem.W.fnOf x x (defArgs st) (defBody st) (defScope st) .none kV doc pm an cdv ct) ⟨us, []⟩ = pure (ps.zip us)) → Binds K fd ps []
theorem At.cal {P : Program} {w : World} {K : PySem.W.Frag} {mg : Str → Option Value} {base : Heap} {x : Str} {st : Stmt} {N ps : List Str} {k : Nat} {sp : Sp} (F : At K mg x st) (S : FnScope N ps (defScope st)) (len : ∀ vs H Q E, sp vs H Q E → vs.length = ps.length)
    (hb : ∀ (kV doc pm : Value) (an : Option Addr) (cdv ct : Value) (us : List Value), us.length = ps.length → bindArgs (PySem.W.fnOf x x (defArgs st) (defBody st) (defScope st) .none kV doc pm an cdv ct) ⟨us, []⟩ = pure (ps.zip us))
    (hbody : ∀ (f : Addr) (cdv : Value) (A : Around) (outer : List Env) (s : Shared) (H : Hp) (vs : List V) (Q : VK) (E : XK), Room k (A.deeper (envOfC x (defScope st) s.heap.objs.size f cdv)) → sp vs H Q E →
      ∃ t, PSs (cxOf CX0 P w K mg base N x (defScope st) f cdv A outer s H E).nox (defBody st) t ∧ t { nx := fun _ H' => Q .non H', rt := Q } (start N vs) H) : Cal P w K mg base (k + 1) x sp := by
  obtain ⟨f, fd, F, hm, b⟩ := F.ex
  exact ⟨f, fd, ps, F.ok S len (hbody f), hm, F.kp, b ps hb⟩
section
variable {X : Cx}
def zTupL (K : PySem.W.Frag) : List V → Hp → VK → Prop := fun vs H Q => ∃ p ys, vs = [.ref p] ∧ SqL K H p ys ∧ ∀ l, H l = none → Q (.ref l) (upd H l (.tup ys))
theorem call_tupL : CallR X (.type "tuple") (zTupL X.K) := by
  intro pins s σ H xs us Q I r h
  obtain ⟨p, ys, rfl, hs, q⟩ := h
  exact call_tuple_of pins s σ H _ us Q I r ⟨p, ys, rfl, .inl ⟨hs, q⟩⟩
end
theorem w_tupL {H : Hp} {Q : VK} {K : PySem.W.Frag} {a : Addr} {xs : List V} (h1 : SqL K H a xs) (h : ∀ l, H l = none → Q (.ref l) (upd H l (.tup xs))) : zTupL K [.ref a] H Q := ⟨a, xs, rfl, h1, h⟩
abbrev kOf {K : PySem.W.Frag} {h : Heap} (_ : K.In h) : PySem.W.Frag := K
theorem at_mk {K : PySem.W.Frag} {h : Heap} {mg : Str → Option Value} {x : Str} {st : Stmt} {f : Addr} {oc : Value} {od an : Option Addr} {sl : Array (Option Value)} {kV dc pm cd ct : Value} (X : K.In h) (G : h.Ns mainGlobals mg)
    (a : PySem.W.nsIn K mainGlobals x = some (some (.ref f))) (l : K.lookup f = some ⟨oc, od, .func (PySem.W.fnOf x x (defArgs st) (defBody st) (defScope st) .none kV dc pm an cd ct), sl⟩) (c : PySem.W.codeIn K cd x = true) (k : PySem.W.keepIn K (.ref f) = true) : At K mg x st :=
  ⟨f, _, fun_mk l c k, PySem.W.mg_of X G a, fun _ h => (fun_mk l c k).binds h⟩
theorem fin_of {lw : PySem.W.OpenLaw} {w : World} {K : PySem.W.Frag} {h : Heap} {mg : Str → Option Value} {st : Stmt} {fa f : Addr} {oc : Value} {od an : Option Addr} {sl : Array (Option Value)} {kV dc pm cd ct : Value} {n : Nat} {sp : Sp} (X : K.In h) (G : h.Ns mainGlobals mg) (hfa : mg "law" = some (.ref fa))
    (a : PySem.W.nsIn K mainGlobals "law" = some (some (.ref f))) (l : K.lookup f = some ⟨oc, od, .func (PySem.W.fnOf "law" "law" (defArgs st) (defBody st) (defScope st) .none kV dc pm an cd ct), sl⟩) (c : PySem.W.codeIn K cd "law" = true) (k : PySem.W.keepIn K (.ref f) = true)
    (hb : ∀ (s : Shared) (v : Value), BindsTo s (PySem.W.fnOf "law" "law" (defArgs st) (defBody st) (defScope st) .none kV dc pm an cd ct) ⟨[v], []⟩ [("script", v)]) (hok : ∀ (f : Addr) (fd : FuncData), Fun K "law" "law" st f fd → ∀ base : Heap, FnOk lw.prog w K mg base CX0 n f fd ["script"] sp) :
    ∃ fd : FuncData, (∀ (s : Shared) (v : Value), BindsTo s fd ⟨[v], []⟩ [("script", v)]) ∧ ∀ base : Heap, K.In base → base.Ns mainGlobals mg → FnOk lw.prog w K mg base CX0 n fa fd ["script"] sp := by
  have e := hfa.symm.trans (PySem.W.mg_of X G a)
  cases e
  exact ⟨_, hb, fun base _ _ => hok _ _ (fun_mk l c k) base⟩
/-- the pool of draws: [int, the list of great numbers] -/
structure Pool (p g : Addr) (H : Hp) : Prop where
  ne : p ≠ g
  ex : ∃ (x : Int) (ns : List Int), H p = some (.lst [.int x, .ref g]) ∧ H g = some (.lst (ns.map V.int)) ∧ ns.length ≤ 1000
theorem Pool.new {p g c : Addr} {H : Hp} {o : HO} (h : Pool p g H) (hc : H c = none) : Pool p g (upd H c o) := by
  obtain ⟨ne, x, ns, h1, h2, h3⟩ := h
  exact ⟨ne, x, ns, get_ne (ne_of_none h1 hc) h1, get_ne (ne_of_none h2 hc) h2, h3⟩
theorem Pool.same {p g : Addr} {H H' : Hp} (h : Pool p g H) (s : Same H H') : Pool p g H' := by
  obtain ⟨ne, x, ns, h1, h2, h3⟩ := h
  exact ⟨ne, x, ns, s _ _ h1, s _ _ h2, h3⟩
theorem Pool.lst {p g c : Addr} {H : Hp} {o : HO} (h : Pool p g H) (h1 : c ≠ p) (h2 : c ≠ g) : Pool p g (upd H c o) := by
  obtain ⟨ne, x, ns, e1, e2, h3⟩ := h
  exact ⟨ne, x, ns, get_ne h1.symm e1, get_ne h2.symm e2, h3⟩
theorem Pool.ne1 {p g c : Addr} {H : Hp} (h : Pool p g H) (hc : H c = none) : c ≠ p := by
  obtain ⟨ne, x, ns, e1, e2, h3⟩ := h
  exact (ne_of_none e1 hc).symm
theorem Pool.ne2 {p g c : Addr} {H : Hp} (h : Pool p g H) (hc : H c = none) : c ≠ g := by
  obtain ⟨ne, x, ns, e1, e2, h3⟩ := h
  exact (ne_of_none e2 hc).symm
theorem Kp.tx {p g : Addr} {H H' : Hp} (k : Kp p g H H') (h : Pool p g H) : Tx H H' := fun b o t e => by
  obtain ⟨ne, x, ns, e1, e2, h3⟩ := h
  refine k b o ?_ ?_ e
  · refine ne_of e e1 ?_
    rcases t with ⟨_, rfl⟩ | ⟨_, _, rfl⟩ <;> intro z <;> cases z
  · refine ne_of e e2 ?_
    rcases t with ⟨_, rfl⟩ | ⟨_, _, rfl⟩ <;> intro z <;> cases z

/-! ## data without a heap -/
inductive D where
  | non | bl (b : Bool) | int (i : Int) | str (l : List Nat) | tup (ds : List D)
mutual
def Rep (K : PySem.W.Frag) (H : Hp) : D → V → Prop
  | .non, v => v = .non
  | .bl b, v => v = .bl b
  | .int i, v => v = .int i
  | .str l, v => v = vS l
  | .tup ds, v => ∃ a xs, v = .ref a ∧ SqT K H a xs ∧ Reps K H ds xs
def Reps (K : PySem.W.Frag) (H : Hp) : List D → List V → Prop
  | [], xs => xs = []
  | d :: ds, xs => ∃ x r, xs = x :: r ∧ Rep K H d x ∧ Reps K H ds r
end
mutual
def D.size : D → Nat
  | .tup ds => 1 + D.sizes ds
  | _ => 1
def D.sizes : List D → Nat
  | [] => 0
  | d :: ds => d.size + D.sizes ds
end
section
variable {K : PySem.W.Frag} {H H' : Hp}
mutual
theorem Rep.tx (x : Tx H H') : ∀ (d : D) (v : V), Rep K H d v → Rep K H' d v
  | .non, v, h => by unfold Rep at h ⊢; exact h
  | .bl b, v, h => by unfold Rep at h ⊢; exact h
  | .int i, v, h => by unfold Rep at h ⊢; exact h
  | .str l, v, h => by unfold Rep at h ⊢; exact h
  | .tup ds, v, h => by
    unfold Rep at h ⊢
    obtain ⟨a, xs, e, h1, h2⟩ := h
    exact ⟨a, xs, e, x.sqT h1, Reps.tx x ds xs h2⟩
theorem Reps.tx (x : Tx H H') : ∀ (ds : List D) (xs : List V), Reps K H ds xs → Reps K H' ds xs
  | [], xs, h => by unfold Reps at h ⊢; exact h
  | d :: ds, xs, h => by
    unfold Reps at h ⊢
    obtain ⟨y, r, e, h1, h2⟩ := h
    exact ⟨y, r, e, Rep.tx x d y h1, Reps.tx x ds r h2⟩
end
theorem Reps.len : ∀ {ds : List D} {xs : List V}, Reps K H ds xs → xs.length = ds.length
  | [], xs, h => by unfold Reps at h; rw [h]; rfl
  | d :: ds, xs, h => by
    unfold Reps at h
    obtain ⟨y, r, rfl, _, h2⟩ := h
    rw [List.length_cons, List.length_cons, Reps.len h2]
theorem Reps.get : ∀ {ds : List D} {xs : List V} {i : Nat} {d : D}, Reps K H ds xs → ds[i]? = some d → ∃ x, xs[i]? = some x ∧ Rep K H d x
  | [], _, _, _, _, e => by simp at e
  | d :: ds, xs, 0, d', h, e => by
    unfold Reps at h
    obtain ⟨y, r, rfl, h1, _⟩ := h
    have e' : d = d' := Option.some.inj e
    subst e'
    exact ⟨y, rfl, h1⟩
  | d :: ds, xs, i + 1, d', h, e => by
    unfold Reps at h
    obtain ⟨y, r, rfl, _, h2⟩ := h
    exact Reps.get (i := i) h2 e
theorem Reps.snoc : ∀ {ds : List D} {xs : List V} {d : D} {x : V}, Reps K H ds xs → Rep K H d x → Reps K H (ds ++ [d]) (xs ++ [x])
  | [], xs, d, x, h, hx => by
    unfold Reps at h
    subst h
    show Reps K H [d] [x]
    unfold Reps
    exact ⟨x, [], rfl, hx, by unfold Reps; rfl⟩
  | d0 :: ds, xs, d, x, h, hx => by
    unfold Reps at h
    obtain ⟨y, r, rfl, h1, h2⟩ := h
    show Reps K H (d0 :: (ds ++ [d])) (y :: (r ++ [x]))
    unfold Reps
    exact ⟨y, r ++ [x], rfl, h1, Reps.snoc h2 hx⟩
theorem Reps.drop : ∀ {ds : List D} {xs : List V} (n : Nat), Reps K H ds xs → Reps K H (ds.drop n) (xs.drop n)
  | ds, xs, 0, h => h
  | [], xs, n + 1, h => by
    unfold Reps at h
    subst h
    show Reps K H [] []
    unfold Reps
    rfl
  | d :: ds, xs, n + 1, h => by
    unfold Reps at h
    obtain ⟨y, r, rfl, h1, h2⟩ := h
    exact Reps.drop n h2
theorem Reps.take : ∀ {ds : List D} {xs : List V} (n : Nat), Reps K H ds xs → Reps K H (ds.take n) (xs.take n)
  | ds, xs, 0, h => by
    show Reps K H [] []
    unfold Reps
    rfl
  | [], xs, n + 1, h => by
    unfold Reps at h
    subst h
    show Reps K H [] []
    unfold Reps
    rfl
  | d :: ds, xs, n + 1, h => by
    unfold Reps at h
    obtain ⟨y, r, rfl, h1, h2⟩ := h
    show Reps K H (d :: ds.take n) (y :: r.take n)
    unfold Reps
    exact ⟨y, _, rfl, h1, Reps.take n h2⟩
theorem Reps.nil : Reps K H [] [] := by unfold Reps; rfl
theorem Reps.cons {d : D} {ds : List D} {x : V} {xs : List V} (h1 : Rep K H d x) (h2 : Reps K H ds xs) : Reps K H (d :: ds) (x :: xs) := by
  unfold Reps
  exact ⟨x, xs, rfl, h1, h2⟩
theorem Rep.str {l : List Nat} : Rep K H (.str l) (vS l) := by unfold Rep; rfl
theorem Rep.int {i : Int} : Rep K H (.int i) (.int i) := by unfold Rep; rfl
theorem Rep.bl {b : Bool} : Rep K H (.bl b) (.bl b) := by unfold Rep; rfl
theorem Rep.non : Rep K H .non .non := by unfold Rep; rfl
theorem Rep.tup {a : Addr} {ds : List D} {xs : List V} (h : SqT K H a xs) (h2 : Reps K H ds xs) : Rep K H (.tup ds) (.ref a) := by
  unfold Rep
  exact ⟨a, xs, rfl, h, h2⟩
theorem rep_str {l : List Nat} {v : V} (h : Rep K H (.str l) v) : v = vS l := by unfold Rep at h; exact h
theorem rep_int {l : Int} {v : V} (h : Rep K H (.int l) v) : v = .int l := by unfold Rep at h; exact h
theorem rep_tup {ds : List D} {v : V} (h : Rep K H (.tup ds) v) : ∃ a xs, v = .ref a ∧ SqT K H a xs ∧ Reps K H ds xs := by unfold Rep at h; exact h
theorem reps_cons {d : D} {ds : List D} {xs : List V} (h : Reps K H (d :: ds) xs) : ∃ x r, xs = x :: r ∧ Rep K H d x ∧ Reps K H ds r := by unfold Reps at h; exact h
theorem reps_nil {xs : List V} (h : Reps K H [] xs) : xs = [] := by unfold Reps at h; exact h
/-! ## isinstance -/
def tyN : D → String
  | .non => "NoneType" | .bl _ => "bool" | .int _ => "int" | .str _ => "str" | .tup _ => "tuple"
theorem tyX_T {a : Addr} {xs : List V} (h : SqT K H a xs) : TyX K H (.ref a) (.type "tuple") := by
  rcases h with (h | ⟨o, h⟩) | h
  · exact .base (.tup h)
  · exact .fTuple h
  · obtain ⟨o, its, n, e, c, _⟩ := h
    exact .kTuple e c
theorem rep_ty {d : D} {v : V} (h : Rep K H d v) : TyX K H v (.type (tyN d)) := by
  cases d with
  | non => unfold Rep at h; subst h; exact .base .non
  | bl b => unfold Rep at h; subst h; exact .base (.bl b)
  | int i => unfold Rep at h; subst h; exact .base (.int i)
  | str l => unfold Rep at h; subst h; exact .base (.str _)
  | tup ds =>
    obtain ⟨a, xs, rfl, h1, _⟩ := rep_tup h
    exact tyX_T h1
theorem w_isi {x : V} {n t : String} {b : Bool} {Q : VK} (ty : TyX K H x (.type t)) (h : kitB t n = some b) (q : Q (.bl b) H) : rIsi K [x, .ty n] H Q := ⟨x, .ty n, .type t, .type n, b, rfl, .ty n, ty, kit_ty h, q⟩
end
theorem w_eqR {x y : V} {H : Hp} {Q : VK} (h1 : scal x y = true) (h : Q (.bl (decide (x = y))) H) : rEq x y H Q := ⟨h1, h⟩
theorem w_ixAT {K : PySem.W.Frag} {H : Hp} {Q : VK} {a : Addr} {xs : List V} {i : Int} {v : V} (h1 : SqT K H a xs) (h2 : atI xs i = some v) (h : Q v H) : rIx K (.ref a) (.int i) H Q := .inr (.inl ⟨a, xs, i, v, rfl, rfl, h1, h2, h⟩)
def isNQ (x y : V) (H : Hp) (Q : VK) : Prop := y = .non ∧ Q (.bl (decide (x = .non))) H
def notNQ (x y : V) (H : Hp) (Q : VK) : Prop := y = .non ∧ Q (.bl (!decide (x = .non))) H
theorem op_isN2 {X : Cx} : OpR X (compareOp .Is) isNQ := op_isN
theorem op_notN2 {X : Cx} : OpR X (compareOp .IsNot) notNQ := op_notN
theorem w_isN {x : V} {H : Hp} {Q : VK} (h : Q (.bl (decide (x = .non))) H) : isNQ x .non H Q := ⟨rfl, h⟩
theorem w_notN {x : V} {H : Hp} {Q : VK} (h : Q (.bl (!decide (x = .non))) H) : notNQ x .non H Q := ⟨rfl, h⟩
theorem ite_nt {A B : Prop} (h : B) : if (!true) = true then A else B := h
theorem ite_nf {A B : Prop} (h : A) : if (!false) = true then A else B := h
theorem Same.new' {H H' : Hp} {p : Addr} {o : HO} (s : Same H H') (h : H' p = none) : Same H (upd H' p o) := s.trans (same_new h)
theorem Same.mut {H H' : Hp} {p : Addr} {o : HO} (s : Same H H') (h : H p = none) : Same H (upd H' p o) := fun b u e => get_ne (ne_of_none e h) (s b u e)
def tCut (t u : TS) : TS := fun D σ H => ∃ Mid : L2.St → Hp → Prop, t { D with nx := Mid } σ H ∧ ∀ σ' H', Mid σ' H' → u D σ' H'
theorem pss_cut {X : Cx} {st : Stmt} {rest : List Stmt} {t u : TS} (h1 : PS X st t) (h2 : PSs X rest u) : PSs X (st :: rest) (tCut t u) := by
  refine ⟨fun pins s σ H D I h => ?_⟩
  obtain ⟨Mid, hm, hu⟩ := h
  refine wpAny_execs_cons (thn (h1.run pins s σ H { D with nx := Mid } I hm) fun f s1 q => ?_)
  cases f with
  | next =>
    obtain ⟨σ', H', I', q⟩ := q
    exact h2.run pins s1 σ' H' D I' (hu σ' H' q)
  | ret v => exact q
  | brk => exact q
  | cont => exact q
theorem w_cut {t u : TS} {D : Ends} {σ : L2.St} {H : Hp} (Mid : L2.St → Hp → Prop) (h1 : t { D with nx := Mid } σ H) (h2 : ∀ σ' H', Mid σ' H' → u D σ' H') : tCut t u D σ H := ⟨Mid, h1, h2⟩
theorem cut_whole {xs : List V} {lo hi : Option Int} (h : HT.sIx xs.length 0 lo = 0 ∧ HT.sIx xs.length xs.length hi = xs.length) : cutL xs lo hi = xs := by
  unfold cutL
  rw [h.1, h.2, List.drop_zero, Nat.sub_zero, List.take_length]
theorem w_slA {K : PySem.W.Frag} {H : Hp} {Q : VK} {a : Addr} {xs : List V} {lo hi : Option Int} (h1 : SqT K H a xs) (h : ∀ p H', Same H H' → SqT K H' p (cutL xs lo hi) → Q (.ref p) H') : rSlA K (.ref a) lo hi H Q := by
  refine ⟨a, xs, rfl, h1, fun hw => ?_, fun hw p hp => ?_⟩
  · exact h a H (Same.refl _) (by rw [cut_whole hw]; exact h1)
  · exact h p _ (same_new hp) (SqT.of upd_same)
/-! ## for -/
section
variable {K : PySem.W.Frag} {ta : TA} {tl : TE} {g : TG} {tb : TS} {D : Ends} {σ : L2.St} {H : Hp}
abbrev Turns (J : It) (g : TG) (tb : TS) (D : Ends) (σ : L2.St) (H : Hp) : Prop := ∃ W : Nat → Nat → L2.St → Hp → Prop, (∃ m, W 0 m σ H) ∧ ∀ i m σ H, W i m σ H →
  (J.stop i H ∧ D.nx σ H) ∨ (J.go i H ∧ ∃ N : L2.St → Hp → Prop, (∀ σ' H', N σ' H' → ∃ m', m' < m ∧ W (i + 1) m' σ' H') ∧ ∀ x H', J.yld i H x H' → g x σ H' fun σ2 H2 => tb { D with nx := N, ct := N, bk := D.nx } σ2 H2)
def rng1Q (g : TG) (tb : TS) (D : Ends) (σ : L2.St) (vs : List V) (H : Hp) : Prop := ∃ j : Int, vs = [.int j] ∧ -(2 ^ 62) ≤ j ∧ j < 2 ^ 62 ∧ Turns (Itr 0 j.toNat) g tb D σ H
theorem w_for1 (h : ta σ H fun vs H1 => rng1Q g tb D σ vs H1) : tFor (iRng1 ta) g tb D σ H := h
theorem w_rng1 {j : Int} (h1 : -1000000000 ≤ j) (h2 : j ≤ 1000000000) (Pv : Nat → L2.St → Hp → Prop) (p0 : Pv 0 σ H)
    (ps : ∀ (i : Nat) (σ : L2.St) (H : Hp), (i : Int) < j → Pv i σ H → g (.int (i : Int)) σ H fun σ2 H2 => tb { D with nx := Pv (i + 1), ct := Pv (i + 1), bk := D.nx } σ2 H2) (pd : ∀ σ H, Pv j.toNat σ H → D.nx σ H) : rng1Q g tb D σ [.int j] H := by
  refine ⟨j, rfl, by omega, by omega, for_range (lo := 0) (n := j.toNat) Pv p0 (fun i σ H hi p => ?_) pd⟩
  have e0 : (0 : Int) + (i : Int) = (i : Int) := Int.zero_add _
  rw [e0]
  exact ps i σ H (by omega) p
def rng2Q (g : TG) (tb : TS) (D : Ends) (σ : L2.St) (vs : List V) (H : Hp) : Prop := ∃ i j : Int, vs = [.int i, .int j] ∧ (-(2 ^ 62) ≤ i ∧ i < 2 ^ 62 ∧ -(2 ^ 62) ≤ j ∧ j < 2 ^ 62) ∧ Turns (Itr i (j - i).toNat) g tb D σ H
theorem w_for2 (h : ta σ H fun vs H1 => rng2Q g tb D σ vs H1) : tFor (iRng2 ta) g tb D σ H := h
theorem w_rng2 {lo hi : Int} (h0 : -1000000000 ≤ lo ∧ lo ≤ 1000000000) (h1 : -1000000000 ≤ hi ∧ hi ≤ 1000000000) (Pv : Nat → L2.St → Hp → Prop) (p0 : Pv 0 σ H)
    (ps : ∀ (i : Nat) (σ : L2.St) (H : Hp), lo + (i : Int) < hi → Pv i σ H → g (.int (lo + (i : Int))) σ H fun σ2 H2 => tb { D with nx := Pv (i + 1), ct := Pv (i + 1), bk := D.nx } σ2 H2) (pd : ∀ σ H, Pv (hi - lo).toNat σ H → D.nx σ H) : rng2Q g tb D σ [.int lo, .int hi] H :=
  ⟨lo, hi, rfl, by omega, for_range (lo := lo) (n := (hi - lo).toNat) Pv p0 (fun i σ H hi p => ps i σ H (by omega) p) pd⟩
def lstQ (K : PySem.W.Frag) (g : TG) (tb : TS) (D : Ends) (σ : L2.St) (x : V) (H : Hp) : Prop := ∃ a, x = .ref a ∧ (∃ xs, SqL K H a xs) ∧ Turns (Itl K a) g tb D σ H
theorem w_forL (h : tl σ H fun x H1 => lstQ K g tb D σ x H1) : tFor (iList K tl) g tb D σ H := h
theorem w_lstQ {a : Addr} {xs : List V} (hx : SqL K H a xs) (Pv : Nat → L2.St → Hp → Prop) (h0 : Pv 0 σ H) (hl : ∀ i σ H, i ≤ xs.length → Pv i σ H → SqL K H a xs)
    (hs : ∀ i x σ H, xs[i]? = some x → Pv i σ H → g x σ H fun σ2 H2 => tb { D with nx := Pv (i + 1), ct := Pv (i + 1), bk := D.nx } σ2 H2) (hd : ∀ σ H, Pv xs.length σ H → D.nx σ H) : lstQ K g tb D σ (.ref a) H :=
  ⟨a, rfl, ⟨xs, hx⟩, for_list (xs := xs) Pv h0 hl hs hd⟩
def tupQ (K : PySem.W.Frag) (g : TG) (tb : TS) (D : Ends) (σ : L2.St) (x : V) (H : Hp) : Prop := ∃ a, x = .ref a ∧ (∃ xs, SqT K H a xs) ∧ Turns (Itt K a) g tb D σ H
theorem w_forT (h : tl σ H fun x H1 => tupQ K g tb D σ x H1) : tFor (iTup K tl) g tb D σ H := h
theorem w_tupQ {a : Addr} {xs : List V} (hx : SqT K H a xs) (Pv : Nat → L2.St → Hp → Prop) (h0 : Pv 0 σ H) (hl : ∀ i σ H, i ≤ xs.length → Pv i σ H → SqT K H a xs)
    (hs : ∀ i x σ H, xs[i]? = some x → Pv i σ H → g x σ H fun σ2 H2 => tb { D with nx := Pv (i + 1), ct := Pv (i + 1), bk := D.nx } σ2 H2) (hd : ∀ σ H, Pv xs.length σ H → D.nx σ H) : tupQ K g tb D σ (.ref a) H :=
  ⟨a, rfl, ⟨xs, hx⟩, for_tup (xs := xs) Pv h0 hl hs hd⟩
def enuQ (g : TG) (tb : TS) (D : Ends) (σ : L2.St) (vs : List V) (H : Hp) : Prop := ∃ x, vs = [.str x] ∧ Turns (Ites x) g tb D σ H
theorem w_forE (h : ta σ H fun vs H1 => enuQ g tb D σ vs H1) : tFor (iEnumS ta) g tb D σ H := h
theorem w_enuQ {l : List Nat} (Pv : Nat → L2.St → Hp → Prop) (h0 : Pv 0 σ H)
    (hs : ∀ i c σ H T, l[i]? = some c → Pv i σ H → H T = none → g (.ref T) σ (upd H T (.tup [.int (i : Nat), vS [c]])) fun σ2 H2 => tb { D with nx := Pv (i + 1), ct := Pv (i + 1), bk := D.nx } σ2 H2) (hd : ∀ σ H, Pv l.length σ H → D.nx σ H) : enuQ g tb D σ [vS l] H :=
  ⟨S l, rfl, for_enumS Pv h0 hs hd⟩
theorem w_while {c : TT} (W : Nat → L2.St → Hp → Prop) (m0 : Nat) (h0 : W m0 σ H)
    (hs : ∀ m σ H, W m σ H → c σ H fun b H1 => if b = true then tb { D with nx := fun σ' H' => ∃ m', m' < m ∧ W m' σ' H', ct := fun σ' H' => ∃ m', m' < m ∧ W m' σ' H', bk := D.nx } σ H1 else D.nx σ H1)
    (mono : ∀ σ H Q Q', (∀ b H1, Q b H1 → Q' b H1) → c σ H Q → c σ H Q') : tWhile c tb D σ H := by
  refine ⟨W, ⟨m0, h0⟩, fun m σ H w => ?_⟩
  refine mono σ H _ _ (fun b H1 q => ?_) (hs m σ H w)
  cases b with
  | true => exact ⟨_, fun σ' H' n => n, q⟩
  | false => exact q
end
section
variable {K : PySem.W.Frag} {ta : TA} {tl te : TE} {g : TG} {tt : TT} {vs : List Nat} {σ : L2.St} {H : Hp} {Q : VK}
def accQ (Dl : Addr) (y : V) (H : Hp) (P : Hp → Prop) : Prop := ∃ acc, H Dl = some (.lst acc) ∧ acc.length < sizeLine ∧ P (upd H Dl (.lst (acc ++ [y])))
theorem w_acc {Dl : Addr} {y : V} {P : Hp → Prop} {acc : List V} (h1 : H Dl = some (.lst acc)) (h2 : acc.length < 16777216) (h : P (upd H Dl (.lst (acc ++ [y])))) : accQ Dl y H P := ⟨acc, h1, by rw [line_eq]; exact h2, h⟩
theorem w_yes {Q : Bool → Hp → Prop} (h : Q true H) : tYes σ H Q := h
abbrev LcTurn (g : TG) (tt : TT) (te : TE) (vs : List Nat) (σ : L2.St) (x : V) (H : Hp) (Dl : Addr) (P : Hp → Prop) : Prop := g x (wipe σ vs) H fun σ2 H2 => wipe σ2 vs = wipe σ vs ∧ tt σ2 H2 fun b H3 => if b = true then te σ2 H3 fun y H4 => accQ Dl y H4 P else P H3
def lcTQ (K : PySem.W.Frag) (g : TG) (tt : TT) (te : TE) (vs : List Nat) (σ : L2.St) (x : V) (H : Hp) (Q : VK) : Prop := tLc (iTup K (tC x)) g tt te vs σ H Q
theorem w_lcT (h : tl σ H fun x H1 => lcTQ K g tt te vs σ x H1 Q) : tLc (iTup K tl) g tt te vs σ H Q := h
theorem w_lcTQ {a : Addr} {xs : List V} (hx : SqT K H a xs) (Pv : Addr → Nat → Hp → Prop) (h0 : ∀ Dl, H Dl = none → Pv Dl 0 (upd H Dl (.lst []))) (hl : ∀ Dl i H', i ≤ xs.length → Pv Dl i H' → SqT K H' a xs)
    (hs : ∀ Dl i x H', H Dl = none → xs[i]? = some x → Pv Dl i H' → LcTurn g tt te vs σ x H' Dl (Pv Dl (i + 1))) (hd : ∀ Dl H', H Dl = none → Pv Dl xs.length H' → Q (.ref Dl) H') : lcTQ K g tt te vs σ (.ref a) H Q :=
  ⟨a, rfl, ⟨xs, hx⟩, fun Dl hD => lc_tup (xs := xs) (Pv Dl) (h0 Dl hD) (hl Dl) (fun i x H' hi p => hs Dl i x H' hD hi p) (fun H' p => hd Dl H' hD p)⟩
def lcLQ (K : PySem.W.Frag) (g : TG) (tt : TT) (te : TE) (vs : List Nat) (σ : L2.St) (x : V) (H : Hp) (Q : VK) : Prop := tLc (iList K (tC x)) g tt te vs σ H Q
theorem w_lcL (h : tl σ H fun x H1 => lcLQ K g tt te vs σ x H1 Q) : tLc (iList K tl) g tt te vs σ H Q := h
theorem w_lcLQ {a : Addr} {xs : List V} (hx : SqL K H a xs) (Pv : Addr → Nat → Hp → Prop) (h0 : ∀ Dl, H Dl = none → Pv Dl 0 (upd H Dl (.lst []))) (hl : ∀ Dl i H', i ≤ xs.length → Pv Dl i H' → SqL K H' a xs)
    (hs : ∀ Dl i x H', H Dl = none → xs[i]? = some x → Pv Dl i H' → LcTurn g tt te vs σ x H' Dl (Pv Dl (i + 1))) (hd : ∀ Dl H', H Dl = none → Pv Dl xs.length H' → Q (.ref Dl) H') : lcLQ K g tt te vs σ (.ref a) H Q :=
  ⟨a, rfl, ⟨xs, hx⟩, fun Dl hD => lc_list (xs := xs) (Pv Dl) (h0 Dl hD) (hl Dl) (fun i x H' hi p => hs Dl i x H' hD hi p) (fun H' p => hd Dl H' hD p)⟩
end
theorem kn_bool : kitB "NoneType" "bool" = some false := by decide +kernel
theorem kb_bool : kitB "bool" "bool" = some true := by decide +kernel
theorem ki_bool : kitB "int" "bool" = some false := by decide +kernel
theorem ks_bool : kitB "str" "bool" = some false := by decide +kernel
theorem kt_bool : kitB "tuple" "bool" = some false := by decide +kernel
theorem kb_int : kitB "bool" "int" = some true := by decide +kernel
theorem ki_int : kitB "int" "int" = some true := by decide +kernel
theorem ks_int : kitB "str" "int" = some false := by decide +kernel
theorem kt_int : kitB "tuple" "int" = some false := by decide +kernel
theorem kb_str : kitB "bool" "str" = some false := by decide +kernel
theorem ki_str : kitB "int" "str" = some false := by decide +kernel
theorem ks_str : kitB "str" "str" = some true := by decide +kernel
theorem kt_str : kitB "tuple" "str" = some false := by decide +kernel
theorem kt_tuple : kitB "tuple" "tuple" = some true := by decide +kernel
theorem kt_list : kitB "tuple" "list" = some false := by decide +kernel

theorem _root_.L2.Room.units1 {k : Nat} {A : Around} (r : Room k A) : A.units + 1 < cLine := by have := r.un; omega
/-! ## cuts -/
theorem cutL_nn {α : Type} (l : List α) {a b : Nat} (h1 : a ≤ b) (h2 : b ≤ l.length) : cutL l (some (a : Int)) (some (b : Int)) = (l.drop a).take (b - a) := by
  unfold cutL
  rw [HT.sIx_nat, HT.sIx_nat, Nat.min_eq_left h2, Nat.min_eq_left (by omega)]
theorem cutL_from {α : Type} (l : List α) {a : Nat} (h1 : a ≤ l.length) : cutL l (some (a : Int)) none = l.drop a := by
  unfold cutL
  rw [HT.sIx_nat, HT.sIx_none, Nat.min_eq_left h1]
  exact List.take_of_length_le (by rw [List.length_drop]; exact Nat.le_refl _)
theorem cutL_to {α : Type} (l : List α) (a : Nat) : cutL l none (some (a : Int)) = l.take a := by
  unfold cutL
  rw [HT.sIx_nat, HT.sIx_none, List.drop_zero, Nat.sub_zero]
  by_cases h : a ≤ l.length
  · rw [Nat.min_eq_left h]
  · rw [Nat.min_eq_right (by omega), List.take_of_length_le (Nat.le_refl _), List.take_of_length_le (by omega)]
theorem cutL_le {α : Type} (l : List α) (lo hi : Option Int) : (cutL l lo hi).length ≤ l.length := by
  unfold cutL
  rw [List.length_take, List.length_drop]
  omega
theorem atI_in {l : List Nat} {r : Int} (h0 : 0 ≤ r) (h1 : r < (l.length : Int)) : ∃ c, atI l r = some c := by
  obtain ⟨k, e⟩ := Int.eq_ofNat_of_zero_le h0
  have hk : k < l.length := by omega
  rw [e]
  exact ⟨l[k], atI_nat (List.getElem?_eq_getElem hk)⟩
/-- enough copies, cut to m -/
theorem cutL_from2 {α : Type} (l : List α) (a : Nat) : cutL l (some (a : Int)) none = l.drop a := by
  by_cases h : a ≤ l.length
  · exact cutL_from l h
  · unfold cutL
    rw [HT.sIx_nat, HT.sIx_none, Nat.min_eq_right (by omega), List.drop_length, List.drop_of_length_le (by omega), List.take_nil]
theorem cut_rep_len {l : List Nat} {m : Int} (hl : 1 ≤ l.length) (hm : 0 ≤ m) : ((cutL (rep (m / (l.length : Int) + 1) l) none (some m)).length : Int) = m := by
  obtain ⟨k, e⟩ := Int.eq_ofNat_of_zero_le hm
  rw [e, cutL_to, List.length_take, rep_len]
  have h1 : ((k : Int) / (l.length : Int) + 1).toNat = k / l.length + 1 := by
    have h3 : ((k : Int) / (l.length : Int)) = ((k / l.length : Nat) : Int) := rfl
    rw [h3]
    generalize k / l.length = d
    omega
  rw [h1]
  have h2 : k < (k / l.length + 1) * l.length := by
    rw [Nat.mul_comm]
    exact Nat.lt_mul_div_succ k (by omega)
  omega
/-! ## ints as items -/
abbrev vI (i : Nat) : V := .int (i : Int)
theorem eqV_I {i j : Int} : eqV (.int i) (.int j) = decide (i = j) := by
  show (i == j) = decide (i = j)
  exact Bool.beq_eq_decide_eq i j
theorem inV_I (a : Int) (bs : List Int) : inV (.int a) (bs.map V.int) = decide (a ∈ bs) := by
  induction bs with
  | nil => rfl
  | cons b r ih =>
    show (eqV (.int b) (.int a) || inV (.int a) (r.map V.int)) = _
    rw [ih, eqV_I]
    by_cases h : b = a
    · subst h; simp
    · have h' : ¬ a = b := fun e => h e.symm
      rw [decide_eq_false h]
      simp [h']
theorem inV_N (a : Nat) (bs : List Nat) : inV (vI a) (bs.map vI) = decide (a ∈ bs) := by
  have e : bs.map vI = (bs.map fun (i : Nat) => (i : Int)).map V.int := by rw [List.map_map]; rfl
  rw [e, inV_I]
  congr 1
  apply propext
  rw [List.mem_map]
  constructor
  · rintro ⟨b, hb, e⟩
    have : b = a := Int.ofNat.inj e
    exact this ▸ hb
  · intro h
    exact ⟨a, h, rfl⟩
theorem flat_I (bs : List Nat) : (bs.map vI).all flatV = true := by
  rw [List.all_eq_true]
  intro x hx
  obtain ⟨b, _, rfl⟩ := List.mem_map.mp hx
  rfl
def zInI (K : PySem.W.Frag) : R2 := fun x y H Q => ∃ (a : Nat) (p : Addr) (bs : List Nat), x = vI a ∧ y = .ref p ∧ (SqL K H p (bs.map vI) ∨ SqT K H p (bs.map vI)) ∧ Q (.bl (decide (a ∈ bs))) H
def zNinI (K : PySem.W.Frag) : R2 := fun x y H Q => ∃ (a : Nat) (p : Addr) (bs : List Nat), x = vI a ∧ y = .ref p ∧ (SqL K H p (bs.map vI) ∨ SqT K H p (bs.map vI)) ∧ Q (.bl (!decide (a ∈ bs))) H
section
variable {X : Cx}
theorem op_inI : OpR X (compareOp .In) (zInI X.K) := by
  intro pins s σ H x y v u Q I rx ry h
  obtain ⟨a, p, bs, rfl, rfl, hp, q⟩ := h
  refine op_in_seq pins s σ H _ _ v u Q I rx ry ⟨p, bs.map vI, rfl, hp, rfl, flat_I bs, ?_⟩
  show Q (.bl (inV (vI a) (bs.map vI))) H
  rw [inV_N]
  exact q
theorem op_ninI : OpR X (compareOp .NotIn) (zNinI X.K) := by
  intro pins s σ H x y v u Q I rx ry h
  obtain ⟨a, p, bs, rfl, rfl, hp, q⟩ := h
  refine op_notIn_seq pins s σ H _ _ v u Q I rx ry ⟨p, bs.map vI, rfl, hp, rfl, flat_I bs, ?_⟩
  show Q (.bl (!inV (vI a) (bs.map vI))) H
  rw [inV_N]
  exact q
/-- xs[i] of a list, by values -/
theorem get_listI : PGet X (rIxL X.K) := by
  intro pins s σ H o i ov iv Q I ro ri h
  obtain ⟨p, xs, k, z, rfl, rfl, hq, he, q⟩ := h
  cases ro
  obtain ⟨t, rfl⟩ := ri
  obtain ⟨its, r, pl, hz⟩ := I.list hq
  obtain ⟨j, h1, h2, h3, h4, h5⟩ := atI_get he
  obtain ⟨w, ew, rw'⟩ := r.get h2
  have hl := r.length
  have hn := line63
  have fin : EP X pins σ Q w s := ⟨z, H, I, rw', q⟩
  by_cases h0 : 0 ≤ k
  · have hj : k.toNat = j := by
      rw [seqIndex_of h0 h5] at h1
      exact Option.some.inj h1
    exact wpAny_getItem_list pl.isList h0 (by omega) (by rw [hj]; simpa using ew) fin
  · have hj : (k + (its.toArray.size : Int)).toNat = j := by
      rw [seqIndex_neg (by omega) h4] at h1
      rw [List.size_toArray, ← hl]
      exact Option.some.inj h1
    exact wpAny_getItem_list_neg pl.isList (by omega) (by rw [List.size_toArray] <;> omega) (by omega) (by rw [hj]; simpa using ew) fin
end
section
variable {σ : L2.St} {H : Hp} {Q : VK} {D : Ends} {ta tb te tc td ty tv : TE} {t u : TS} {g : TG} {v : V} {K : PySem.W.Frag}
theorem w_inIT {a : Nat} {p : Addr} {bs : List Nat} (h1 : SqT K H p (bs.map vI)) (h : Q (.bl (decide (a ∈ bs))) H) : zInI K (vI a) (.ref p) H Q := ⟨a, p, bs, rfl, rfl, .inr h1, h⟩
theorem w_inIL {a : Nat} {p : Addr} {bs : List Nat} (h1 : SqL K H p (bs.map vI)) (h : Q (.bl (decide (a ∈ bs))) H) : zInI K (vI a) (.ref p) H Q := ⟨a, p, bs, rfl, rfl, .inl h1, h⟩
theorem w_ninIT {a : Nat} {p : Addr} {bs : List Nat} (h1 : SqT K H p (bs.map vI)) (h : Q (.bl (!decide (a ∈ bs))) H) : zNinI K (vI a) (.ref p) H Q := ⟨a, p, bs, rfl, rfl, .inr h1, h⟩
theorem w_ninIL {a : Nat} {p : Addr} {bs : List Nat} (h1 : SqL K H p (bs.map vI)) (h : Q (.bl (!decide (a ∈ bs))) H) : zNinI K (vI a) (.ref p) H Q := ⟨a, p, bs, rfl, rfl, .inl h1, h⟩
/-! ## dicts -/
def dgetQ (x y : V) (H : Hp) (Q : VK) : Prop := ∃ a v, x = .ref a ∧ DGet H a y (some v) ∧ Q v H
theorem w_dgetQ (h : td σ H fun x H1 => ty σ H1 fun y H2 => dgetQ x y H2 Q) : tDGet td ty σ H Q := h
theorem w_dget {a : Addr} {kvs : List (Key × V)} {k : Key} {y : V} (hy : y = kV k) (h1 : H a = some (.dK kvs)) (h2 : valV kvs k = some v) (h : Q v H) : dgetQ (.ref a) y H Q := by
  subst hy
  exact ⟨a, v, rfl, h2 ▸ DGet.k h1, h⟩
def dinQ (x y : V) (H : Hp) (Q : VK) : Prop := ∃ a o, x = .ref a ∧ DGet H a y o ∧ Q (.bl o.isSome) H
theorem w_dinQ (h : ty σ H fun y H1 => td σ H1 fun x H2 => dinQ x y H2 Q) : tDIn ty td σ H Q := h
theorem w_din {a : Addr} {kvs : List (Key × V)} {k : Key} {y : V} (hy : y = kV k) (h1 : H a = some (.dK kvs)) (h : Q (.bl (valV kvs k).isSome) H) : dinQ (.ref a) y H Q := by
  subst hy
  exact ⟨a, _, rfl, DGet.k h1, h⟩
def dninQ (x y : V) (H : Hp) (Q : VK) : Prop := ∃ a o, x = .ref a ∧ DGet H a y o ∧ Q (.bl (!o.isSome)) H
theorem w_dninQ (h : ty σ H fun y H1 => td σ H1 fun x H2 => dninQ x y H2 Q) : tDNotIn ty td σ H Q := h
theorem w_dnin {a : Addr} {kvs : List (Key × V)} {k : Key} {y : V} (hy : y = kV k) (h1 : H a = some (.dK kvs)) (h : Q (.bl (!(valV kvs k).isSome)) H) : dninQ (.ref a) y H Q := by
  subst hy
  exact ⟨a, _, rfl, DGet.k h1, h⟩
theorem w_setD {a : Addr} {kvs : List (Key × V)} {k : Key} {y : V} {Q : Hp → Prop} (hy : y = kV k) (h1 : H a = some (.dK kvs)) (h2 : kvs.length < 16777216) (h : Q (upd H a (.dK (putK kvs k v)))) : rSetD (.ref a) y v H Q := by
  subst hy
  exact ⟨a, _, rfl, DPut.k h1 (by rw [line_eq]; exact h2), h⟩
def disp1Q (x y : V) (p : Addr) (H : Hp) (Q : VK) : Prop := H p = some (.dK []) ∧ ∃ kvs : List (Key × V), [(x, y)] = kvs.map (fun kv => (kV kv.1, kv.2)) ∧ kvs.length ≤ 15 ∧ Q (.ref p) (upd H p (.dK (mergeK [] kvs)))
theorem w_disp1 {tk tv : TE} (h : ∀ p, H p = none → tk σ (upd H p (.dK [])) fun x H1 => tv σ H1 fun y H2 => disp1Q x y p H2 Q) : tDisp [(tk, tv)] σ H Q := h
theorem w_disp1Q {x y : V} {p : Addr} {k : Key} (hx : x = kV k) (h1 : H p = some (.dK [])) (h : Q (.ref p) (upd H p (.dK [(k, y)]))) : disp1Q x y p H Q := by
  subst hx
  exact ⟨h1, [(k, y)], rfl, by simp, h⟩
theorem w_dnew (h : ∀ p, H p = none → Q (.ref p) (upd H p (.dK []))) : tDNewK σ H Q := h
theorem Tx.dk {H0 H : Hp} {l : Addr} {kvs : List (Key × V)} {o : HO} (x : Tx H0 H) (h : H l = some (.dK kvs)) : Tx H0 (upd H l o) := fun b u k e => by
  have e2 := x b u k e
  have n : b ≠ l := by
    refine ne_of e2 h ?_
    rcases k with ⟨_, rfl⟩ | ⟨_, _, rfl⟩ <;> intro z <;> cases z
  rw [upd_ne n]
  exact e2
theorem w_truI {i : Int} {Q : Bool → Hp → Prop} {H : Hp} {K : PySem.W.Frag} (h : Q (!decide (i = 0)) H) : truQ K (.int i) H Q := by
  refine ⟨_, rfl, ?_⟩
  have e : (i != 0) = !decide (i = 0) := by
    by_cases hi : i = 0
    · subst hi; rfl
    · rw [decide_eq_false hi]
      simp [hi]
  rw [e]
  exact h
theorem ixN_n {n j : Nat} (hj : j < n) : ixN n (j : Int) = some j := by
  unfold ixN
  rw [if_pos (by omega), if_pos (by omega)]
  simp
theorem atI_last {α : Type} {xs : List α} {x : α} : atI (xs ++ [x]) (-1) = some x := by
  unfold atI ixN
  rw [if_neg (by omega), if_pos (by rw [List.length_append, List.length_singleton]; omega)]
  have e : (-1 + ((xs ++ [x]).length : Int)).toNat = xs.length := by
    rw [List.length_append, List.length_singleton]
    omega
  rw [e]
  simp
theorem map_at {α : Type} {f : α → V} {xs : List α} {i : Nat} {v : V} (h : (xs.map f)[i]? = some v) : ∃ x, xs[i]? = some x ∧ v = f x := by
  rw [List.getElem?_map] at h
  obtain ⟨x, e, r⟩ := Option.map_eq_some_iff.mp h
  exact ⟨x, e, r.symm⟩
theorem at_map {α : Type} {f : α → V} {xs : List α} {i : Nat} {x : α} (h : xs[i]? = some x) : (xs.map f)[i]? = some (f x) := by rw [List.getElem?_map, h]; rfl
theorem getD_at {α : Type} {xs : List α} {i : Nat} {d : α} (h : i < xs.length) : xs[i]? = some (xs.getD i d) := by
  rw [List.getD_eq_getElem?_getD, List.getElem?_eq_getElem h]
  rfl
theorem getD_of {α : Type} {xs : List α} {i : Nat} {d x : α} (h : xs[i]? = some x) : xs.getD i d = x := by
  rw [List.getD_eq_getElem?_getD, h]
  rfl
theorem Same.fresh {H H' : Hp} {p : Addr} (s : Same H H') (h : H' p = none) : H p = none := by
  cases e : H p with
  | none => rfl
  | some o => rw [s _ _ e] at h; cases h
theorem rep_map {α : Type} (f : α → V) (x : α) (n : Nat) : List.replicate n (f x) = (List.replicate n x).map f := by rw [List.map_replicate]
/-! ## lists -/
theorem w_rep {l : Addr} {k : Int} {xs : List V} (h1 : H l = some (.lst xs)) (h2 : -100000000 ≤ k) (h3 : k ≤ 100000000) (h4 : xs.length * k.toNat ≤ 16777216) (h : ∀ p, H p = none → Q (.ref p) (upd H p (.lst (List.replicate k.toNat xs).flatten))) : rRep (.ref l) (.int k) H Q :=
  ⟨l, k, xs, rfl, rfl, h1, by omega, by omega, by rw [line_eq]; exact h4, h⟩
theorem flat_one {α : Type} (x : α) : ∀ n : Nat, (List.replicate n [x]).flatten = List.replicate n x
  | 0 => rfl
  | n + 1 => by rw [List.replicate_succ, List.flatten_cons, flat_one x n, List.replicate_succ]; rfl
/-- [x] * n -/
theorem w_rep1 {l : Addr} {n : Nat} {x : V} (h1 : H l = some (.lst [x])) (h2 : n ≤ 16777216) (h : ∀ p, H p = none → Q (.ref p) (upd H p (.lst (List.replicate n x)))) : rRep (.ref l) (.int (n : Int)) H Q := by
  refine w_rep h1 (by omega) (by omega) (by simp; exact h2) fun p hp => ?_
  rw [Int.toNat_natCast, flat_one]
  exact h p hp
theorem w_catL {a b : Addr} {xs ys : List V} (h1 : H a = some (.lst xs)) (h2 : H b = some (.lst ys)) (h3 : xs.length + ys.length ≤ 16777216) (h : ∀ p, H p = none → Q (.ref p) (upd H p (.lst (xs ++ ys)))) : rCat (.ref a) (.ref b) H Q :=
  ⟨a, b, xs, ys, rfl, rfl, h1, h2, by rw [line_eq]; exact h3, h⟩
theorem w_catA {a b : Addr} {xs ys : List V} (h1 : SqT K H a xs) (h2 : SqT K H b ys) (h3 : xs.length + ys.length ≤ 16777216) (h : ∀ p H', Same H H' → SqT K H' p (xs ++ ys) → Q (.ref p) H') : rCatA K (.ref a) (.ref b) H Q := by
  refine ⟨a, b, xs, ys, rfl, rfl, h1, h2, by rw [line_eq]; exact h3, fun e => ?_, fun _ e => ?_, fun _ _ p hp => ?_⟩
  · subst e
    exact h b H (Same.refl _) h2
  · subst e
    exact h a H (Same.refl _) (by rw [List.append_nil]; exact h1)
  · exact h p _ (same_new hp) (SqT.of upd_same)
theorem w_sumL {a : Addr} {ns : List Int} (h1 : SqL K H a (ns.map V.int)) (h : Q (.int ns.sum) H) : rSum K [.ref a] H Q := ⟨a, ns, rfl, h1, h⟩
theorem w_augS {to ti te : TE} {tget : V → V → Hp → VK → Prop} {tip : TIp} {tset : TSet} (h : to σ H fun o H1 => ti σ H1 fun i H2 => tget o i H2 fun x H3 => te σ H3 fun y H4 => tip x y H4 fun z H5 => tset o i z H5 fun H6 => D.nx σ H6) : tAugS to ti te tget tip tset D σ H := h
theorem w_ipI {f : Int → Int → Int} {i j : Int} (h : Q (.int (f i j)) H) : ipI f (.int i) (.int j) H Q := ⟨i, j, rfl, rfl, h⟩
theorem w_aug {i : Nat} {ti : TIp} (h1 : σ[i]? = some (some v)) (h : te σ H fun y H1 => ti v y H1 fun z H2 => D.nx (σ.set i (some z)) H2) : tAug i te ti D σ H := ⟨v, h1, h⟩
def tupRgQ (a b : Int) (H : Hp) (Q : VK) : Prop := RgOk a b ∧ ∀ q, H q = none → Q (.ref q) (upd H q (.tup (rgV a b)))
def rg1Q (x : V) (H : Hp) (Q : Int → Int → Hp → Prop) : Prop := ∃ n, x = .int n ∧ Q 0 n H
theorem w_tupRg {te : L2.St → Hp → (Int → Int → Hp → Prop) → Prop} (h : te σ H fun a b H1 => tupRgQ a b H1 Q) : tTupRg te σ H Q := h
theorem w_rg1 {Q : Int → Int → Hp → Prop} (h : ta σ H fun x H1 => rg1Q x H1 Q) : tRg1 ta σ H Q := h
theorem w_rg1Q {n : Int} {Q : Int → Int → Hp → Prop} (h : Q 0 n H) : rg1Q (.int n) H Q := ⟨n, rfl, h⟩
theorem rgV0 (n : Nat) : rgV 0 (n : Int) = (List.range n).map vI := by
  unfold rgV
  rw [Int.sub_zero, Int.toNat_natCast]
  apply List.map_congr_left
  intro i _
  rw [Int.zero_add]
theorem w_tupRg0 {n : Nat} (h1 : n ≤ 16777216) (h : ∀ q, H q = none → Q (.ref q) (upd H q (.tup ((List.range n).map vI)))) : tupRgQ 0 (n : Int) H Q :=
  ⟨RgOk.of_le (by omega) (by omega) (by omega) (by omega), fun q hq => by rw [rgV0]; exact h q hq⟩
end
/-! ## for -/
section
variable {K : PySem.W.Frag} {ta : TA} {tl : TE} {g : TG} {tb : TS} {D : Ends} {σ : L2.St} {H : Hp}
def enlQ (K : PySem.W.Frag) (g : TG) (tb : TS) (D : Ends) (σ : L2.St) (vs : List V) (H : Hp) : Prop := ∃ a xs, vs = [.ref a] ∧ SqL K H a xs ∧ Turns (Ite K a) g tb D σ H
theorem w_forEL (h : ta σ H fun vs H1 => enlQ K g tb D σ vs H1) : tFor (iEnum K ta) g tb D σ H := h
theorem w_enlQ {a : Addr} {xs : List V} (hx : SqL K H a xs) (Pv : Nat → L2.St → Hp → Prop) (h0 : Pv 0 σ H) (hl : ∀ i σ H, i ≤ xs.length → Pv i σ H → SqL K H a xs)
    (hs : ∀ i x T σ H, xs[i]? = some x → Pv i σ H → H T = none → g (.ref T) σ (upd H T (.tup [vI i, x])) fun σ2 H2 => tb { D with nx := Pv (i + 1), ct := Pv (i + 1), bk := D.nx } σ2 H2) (hd : ∀ σ H, Pv xs.length σ H → D.nx σ H) : enlQ K g tb D σ [.ref a] H := by
  refine ⟨a, xs, rfl, hx, for_it walk_enum Pv h0 hl (fun i x σ H H' hi p y => ?_) hd⟩
  obtain ⟨T, x1, x2, rfl, hT, rfl, e1, e2⟩ := y
  have e1' : vI i = x1 := Option.some.inj e1
  subst e1'
  exact hs i x2 T σ H e2 p hT
def chrQ (g : TG) (tb : TS) (D : Ends) (σ : L2.St) (v : V) (H : Hp) : Prop := ∃ x, v = .str x ∧ Turns (Its x) g tb D σ H
theorem w_forS (h : tl σ H fun v H1 => chrQ g tb D σ v H1) : tFor (iStr tl) g tb D σ H := h
theorem w_chrQ {l : List Nat} (Pv : Nat → L2.St → Hp → Prop) (h0 : Pv 0 σ H)
    (hs : ∀ i c σ H, l[i]? = some c → Pv i σ H → g (vS [c]) σ H fun σ2 H2 => tb { D with nx := Pv (i + 1), ct := Pv (i + 1), bk := D.nx } σ2 H2) (hd : ∀ σ H, Pv l.length σ H → D.nx σ H) : chrQ g tb D σ (vS l) H := by
  have hz : (S l).cps.size = l.length := by simp
  have W : Walk (Its (S l)) l.length (fun _ => True) (fun i H v H' => H' = H ∧ ∃ c, (S l).cps[i]? = some c ∧ v = .str ⟨#[c]⟩) := hz ▸ walk_str
  refine ⟨S l, rfl, for_it W Pv h0 (fun _ _ _ _ _ => trivial) (fun i x σ H H' hi p y => ?_) hd⟩
  obtain ⟨rfl, c, hc, rfl⟩ := y
  exact hs i c σ H' (by simpa using hc) p
end
/-! ## comprehensions -/
section
variable {K : PySem.W.Frag} {ta : TA} {tl te : TE} {g : TG} {tt : TT} {vs : List Nat} {σ : L2.St} {H : Hp} {Q : VK}
def lcR1Q (g : TG) (tt : TT) (te : TE) (vs : List Nat) (σ : L2.St) (xs : List V) (H : Hp) (Q : VK) : Prop := tLc (iRng1 (fun _ H P => P xs H)) g tt te vs σ H Q
theorem w_lcR1 (h : ta σ H fun xs H1 => lcR1Q g tt te vs σ xs H1 Q) : tLc (iRng1 ta) g tt te vs σ H Q := h
theorem w_lcR1Q {j : Int} (h1 : -1000000000 ≤ j) (h2 : j ≤ 1000000000) (Pv : Addr → Nat → Hp → Prop) (h0 : ∀ Dl, H Dl = none → Pv Dl 0 (upd H Dl (.lst [])))
    (hs : ∀ Dl (i : Nat) H', H Dl = none → (i : Int) < j → Pv Dl i H' → LcTurn g tt te vs σ (vI i) H' Dl (Pv Dl (i + 1))) (hd : ∀ Dl H', H Dl = none → Pv Dl j.toNat H' → Q (.ref Dl) H') : lcR1Q g tt te vs σ [.int j] H Q := by
  refine ⟨j, rfl, by omega, by omega, fun Dl hD => lc_it (walk_range (lo := 0) (n := j.toNat)) (Pv Dl) (h0 Dl hD) (fun _ _ _ _ => trivial) (fun i x H1 H' hi p y => ?_) (fun H' p => hd Dl H' hD p)⟩
  obtain ⟨rfl, rfl⟩ := y
  have e0 : (0 : Int) + (i : Int) = (i : Int) := Int.zero_add _
  show g (.int (0 + (i : Int))) _ _ _
  rw [e0]
  exact hs Dl i H' hD (by omega) p
def lcR2Q (g : TG) (tt : TT) (te : TE) (vs : List Nat) (σ : L2.St) (xs : List V) (H : Hp) (Q : VK) : Prop := tLc (iRng2 (fun _ H P => P xs H)) g tt te vs σ H Q
theorem w_lcR2 (h : ta σ H fun xs H1 => lcR2Q g tt te vs σ xs H1 Q) : tLc (iRng2 ta) g tt te vs σ H Q := h
theorem w_lcR2Q {lo hi : Int} (h1 : -1000000000 ≤ lo ∧ lo ≤ 1000000000) (h2 : -1000000000 ≤ hi ∧ hi ≤ 1000000000) (Pv : Addr → Nat → Hp → Prop) (h0 : ∀ Dl, H Dl = none → Pv Dl 0 (upd H Dl (.lst [])))
    (hs : ∀ Dl (i : Nat) H', H Dl = none → lo + (i : Int) < hi → Pv Dl i H' → LcTurn g tt te vs σ (.int (lo + (i : Int))) H' Dl (Pv Dl (i + 1))) (hd : ∀ Dl H', H Dl = none → Pv Dl (hi - lo).toNat H' → Q (.ref Dl) H') : lcR2Q g tt te vs σ [.int lo, .int hi] H Q := by
  refine ⟨lo, hi, rfl, by omega, fun Dl hD => lc_it (walk_range (lo := lo) (n := (hi - lo).toNat)) (Pv Dl) (h0 Dl hD) (fun _ _ _ _ => trivial) (fun i x H1 H' hi p y => ?_) (fun H' p => hd Dl H' hD p)⟩
  obtain ⟨rfl, rfl⟩ := y
  exact hs Dl i H' hD (by omega) p
def lcSQ (g : TG) (tt : TT) (te : TE) (vs : List Nat) (σ : L2.St) (x : V) (H : Hp) (Q : VK) : Prop := tLc (iStr (tC x)) g tt te vs σ H Q
theorem w_lcS (h : tl σ H fun x H1 => lcSQ g tt te vs σ x H1 Q) : tLc (iStr tl) g tt te vs σ H Q := h
theorem w_lcSQ {l : List Nat} (Pv : Addr → Nat → Hp → Prop) (h0 : ∀ Dl, H Dl = none → Pv Dl 0 (upd H Dl (.lst [])))
    (hs : ∀ Dl i c H', H Dl = none → l[i]? = some c → Pv Dl i H' → LcTurn g tt te vs σ (vS [c]) H' Dl (Pv Dl (i + 1))) (hd : ∀ Dl H', H Dl = none → Pv Dl l.length H' → Q (.ref Dl) H') : lcSQ g tt te vs σ (vS l) H Q := by
  have hz : (S l).cps.size = l.length := by simp
  have W : Walk (Its (S l)) l.length (fun _ => True) (fun i H v H' => H' = H ∧ ∃ c, (S l).cps[i]? = some c ∧ v = .str ⟨#[c]⟩) := hz ▸ walk_str
  refine ⟨S l, rfl, fun Dl hD => lc_it W (Pv Dl) (h0 Dl hD) (fun _ _ _ _ => trivial) (fun i x H1 H' hi p y => ?_) (fun H' p => hd Dl H' hD p)⟩
  obtain ⟨rfl, c, hc, rfl⟩ := y
  exact hs Dl i c H' hD (by simpa using hc) p
end

theorem sqL_same {K : PySem.W.Frag} {H H' : Hp} {a : Addr} {xs : List V} (s : Same H H') (h : SqL K H a xs) : SqL K H' a xs := by
  rcases h with (h | ⟨o, h⟩) | h
  · exact .inl (.inl (s _ _ h))
  · exact .inl (.inr ⟨o, s _ _ h⟩)
  · exact .inr h
theorem Kp.mut {p g c : Addr} {H H' : Hp} {o : HO} (k : Kp p g H H') (hc : H c = none) : Kp p g H (upd H' c o) := fun b u k1 k2 e => get_ne (ne_of_none e hc) (k b u k1 k2 e)
theorem Kp.fresh {p g c : Addr} {H H' : Hp} (k : Kp p g H H') (h1 : c ≠ p) (h2 : c ≠ g) (h : H' c = none) : H c = none := by
  cases e : H c with
  | none => rfl
  | some o => rw [k c o h1 h2 e] at h; cases h
theorem Kp.new {p g c : Addr} {H H' : Hp} {o : HO} (k : Kp p g H H') (h : H' c = none) : Kp p g H (upd H' c o) := fun b u k1 k2 e => get_ne (ne_of_none (k b u k1 k2 e) h) (k b u k1 k2 e)
theorem cutL_mem {α : Type} {l : List α} {lo hi : Option Int} {x : α} (h : x ∈ cutL l lo hi) : x ∈ l := by
  unfold cutL at h
  exact List.mem_of_mem_drop (List.mem_of_mem_take h)
theorem rep_mem {α : Type} {l : List α} {n : Int} {x : α} (h : x ∈ rep n l) : x ∈ l := by
  unfold rep at h
  obtain ⟨y, hy, hx⟩ := List.mem_flatten.mp h
  rw [(List.mem_replicate.mp hy).2] at hx
  exact hx
/-! ## text[::-1] -/
theorem rev_pick (l : List Nat) : (Builtin.Str.strSliceIndices none none (-1) (S l).length).filterMap ((S l).cps[·]?) = l.reverse := by
  have e : Builtin.Str.strSliceIndices none none (-1) (S l).length = sliceRange (((S l).length : Int) - 1) (-1) (-1) := by
    first | rfl | simp [Builtin.Str.strSliceIndices]
  rw [e, PySem.W.krv_sliceRange, PySem.W.krv_range, List.filterMap_reverse]
  have h := PySem.W.krv_all (S l).cps
  exact congrArg List.reverse h
def revSQ (x : V) (H : Hp) (Q : VK) : Prop := ∃ l, x = vS l ∧ l.length ≤ 16777216 ∧ Q (vS l.reverse) H
def tRevS (te : TE) : TE := fun σ H Q => te σ H fun x H1 => revSQ x H1 Q
section
variable {X : Cx}
theorem pe_revS {e : Expr} {te : TE} {k : Nat} {p1 p2 p3 pos : Pos} (he : PE X e te) : PE X (.Subscript e (.Slice none none (some (.UnaryOp .USub (.Constant (.int 1) k p1) p2)) p3) pos) (tRevS te) := by
  refine ⟨fun pins s σ H Q I h => ?_⟩
  refine Subscript_ (thn (he.run pins s σ H _ I h) fun v s1 ⟨x, H1, I1, r1, q1⟩ => ?_)
  obtain ⟨a, ex, hz, q⟩ := q1
  subst ex
  obtain ⟨t, rfl⟩ := r1
  have hst : PO X (some (.UnaryOp .USub (.Constant (.int 1) k p1) p2)) (tPart (tUn (rU fun i => .int (-i)) (tC (.int 1)))) := po_some (pe_un un_neg pe_int)
  refine wpAny_Slice (thn (po_none.run pins s1 σ H1 (fun o H2 => o = none ∧ H2 = H1) I1 ⟨rfl, rfl⟩) fun vl s2 ⟨l, H2, I2, pl, el, e2⟩ => ?_)
  subst el e2
  refine thn (po_none.run pins s2 σ H2 (fun o H3 => o = none ∧ H3 = H2) I2 ⟨rfl, rfl⟩) fun vu s3 ⟨u, H3, I3, pu, eu, e3⟩ => ?_
  subst eu e3
  refine thn (hst.run pins s3 σ H3 (fun o H4 => o = some (-1) ∧ H4 = H3) I3 ⟨1, rfl, -1, rfl, rfl, rfl⟩) fun vs s4 ⟨o, H4, I4, ps, eo, e4⟩ => ?_
  subst eo e4
  have I5 : Inv X pins σ H4 { s4 with heap := s4.heap.push { cls := .type "slice", data := .fields #[vl, vu, vs] } } := I4.kept (t' := s4.toks) fun b ob q => Heap.get?_push_of_some _ q
  cases pl
  cases pu
  obtain ⟨tk, rfl⟩ : ∃ tk, vs = .int (-1) tk := by
    cases ps
    exact ⟨_, rfl⟩
  show wpAny (model X.prog X.w) X.A (subscriptTail e (.Slice none none (some (.UnaryOp .USub (.Constant (.int 1) k p1) p2)) p3) (.str (S a) t) (.ref s4.heap.objs.size)) (EP X pins σ Q) X.xe { s4 with heap := s4.heap.push { cls := .type "slice", data := .fields #[.none, .none, .int (-1) tk] } }
  refine tail_any (ops := [.str (S a) t, .ref s4.heap.objs.size]) (typeIs_str _ _ _) F.slot_str_getitem.lookup ?_ (by with_unfolding_all rfl)
  refine wpAny_getItem_str_slice (l := none) (u := none) (st := some (-1, tk)) ⟨_, Heap.get?_push_size _ rfl, rfl, rfl⟩ rfl ?_
  have e : slicePicked (S a) none none (some (-1, tk)) = Builtin.Str.strSliceIndices none none (-1) (S a).length := rfl
  unfold sliceMade
  rw [e, rev_pick]
  show Made.post (if (((-1 : Int) == 1) && _) = true then _ else _) _ _
  rw [if_neg (by
    rw [show ((-1 : Int) == 1) = false from rfl, Bool.false_and]
    exact Bool.false_ne_true)]
  have hl : (S a.reverse).length ≤ sizeLine := by rw [S_len, List.length_reverse, line_eq]; exact hz
  exact ⟨hl, .str _, H4, I5.tok _, ⟨_, rfl⟩, q⟩
/-! ## list(text) -/
def zListS : List V → Hp → VK → Prop := fun vs H Q => ∃ l : List Nat, vs = [vS l] ∧ l.length ≤ 16777216 ∧ ∀ p, H p = none → Q (.ref p) (upd H p (.lst (l.map fun c => vS [c])))
theorem call_listS (hc : X.calm = true) : CallR X (.type "list") zListS := by
  intro pins s σ H xs us Q I r h
  obtain ⟨l, rfl, hz, q⟩ := h
  cases r with
  | cons r rr =>
    cases rr
    obtain ⟨t, rfl⟩ := r
    refine call_list_str (I.ok.hd hc) (S l) t (fun h' tk acc c' hk e' hi => ?_) (by rw [line_eq]; simpa using hz)
    have hsz : acc.toList.length = l.length := by rw [Array.length_toList, hi.1]; simp
    refine ⟨.ref s.heap.objs.size, upd H s.heap.objs.size (.lst (l.map fun c => vS [c])), I.laid hk (Nat.le_refl _) (show ObjOk X.prog X.w _ _ _ (.lst (l.map fun c => vS [c])) from ⟨?_, acc.toList, c', ?_, ?_⟩), rfl, q _ (I.hok.fresh (Nat.le_refl _))⟩
    · rw [List.length_map, line_eq]; exact hz
    · refine vals_of_at (by rw [List.length_map, hsz]) fun j x u hx hu => ?_
      obtain ⟨c, hc', rfl⟩ := map_at hx
      obtain ⟨c2, u2, h1, rfl⟩ := hi.2 j u (by rw [← hu, Array.getElem?_toList])
      have h1' : l[j]? = some c2 := by simpa using h1
      rw [hc'] at h1'
      cases h1'
      exact ⟨u2, rfl⟩
    · rw [Array.toArray_toList]; exact e'
/-! ## text.find(one sign) -/
theorem idxOf_le : ∀ (l : List Nat) (c i : Nat), l[i]? = some c → l.idxOf c ≤ i
  | a :: r, c, 0, e => by
    have : a = c := Option.some.inj e
    subst this
    rw [List.idxOf_cons_self]
    exact Nat.le_refl _
  | a :: r, c, i + 1, e => by
    have ih := idxOf_le r c i e
    rw [List.idxOf_cons]
    cases (a == c) with
    | true => exact Nat.zero_le _
    | false => exact Nat.succ_le_succ ih
theorem find_sign {l : List Nat} {c : Nat} (h : c ∈ l) : Txt.find (S l) (S [c]) = (l.idxOf c : Int) := by
  have key : ∀ i, StrLaws.At (S l) (S [c]) (S l).length i ↔ l[i]? = some c := fun i => StrLaws.subAt_one (S l) c i
  have hi : l[l.idxOf c]? = some c := by
    rw [List.getElem?_eq_getElem (List.idxOf_lt_length_of_mem h)]
    simp
  rcases find_whole (S l) (S [c]) with ⟨_, hn⟩ | ⟨i, e, hat, hn⟩
  · exact absurd ((key _).mpr hi) (hn _)
  · rw [e]
    have h1 := (key i).mp hat
    have h2 : l.idxOf c ≤ i := idxOf_le l c i h1
    have h3 : ¬ l.idxOf c < i := fun hlt => hn _ hlt ((key _).mpr hi)
    have : i = l.idxOf c := by omega
    rw [this]
def zFind1 : V → List V → Hp → VK → Prop := fun x xs H Q => ∃ (l : List Nat) (c : Nat), x = vS l ∧ xs = [vS [c]] ∧ c ∈ l ∧ Q (.int (l.idxOf c : Nat)) H
theorem mt_find1 : MtR X "str.find" zFind1 := by
  intro pins s σ H x xs v us Q I rx rs h
  obtain ⟨l, c, rfl, rfl, hc, q⟩ := h
  refine mt_find pins s σ H _ _ v us Q I rx rs ⟨S l, S [c], rfl, rfl, ?_⟩
  rw [find_sign hc]
  exact q
/-! ## int(a truth value) -/
def zIntB : List V → Hp → VK → Prop := fun xs H Q => ∃ b, xs = [.bl b] ∧ Q (.int (if b then 1 else 0)) H
theorem call_intB : CallR X (.type "int") zIntB := by
  intro pins s σ H xs us Q I r h
  obtain ⟨b, rfl, q⟩ := h
  exact call_int1 pins s σ H _ us Q I r (.inr ⟨b, rfl, q⟩)
/-! ## list(a list), list(a tuple) -/
def zListT (K : PySem.W.Frag) : List V → Hp → VK → Prop := fun xs H Q => ∃ p ys, xs = [.ref p] ∧ (SqL K H p ys ∨ SqT K H p ys) ∧ ∀ l, H l = none → Q (.ref l) (upd H l (.lst ys))
theorem call_listT : CallR X (.type "list") (zListT X.K) := call_list_of
/-! ## text.upper() of ASCII letters -/
theorem placed_one {l : List Nat} {f : Nat → Nat → List Nat} (h : ∀ i c, c ∈ l → (f i c).length = 1) : (PySem.placed (S l) f).size = l.length := by
  unfold PySem.placed
  rw [Array.size_flatten]
  have e : Array.map Array.size (Array.mapIdx (fun i c => (f i c).toArray) (S l).cps) = Array.replicate l.length 1 := by
    apply Array.ext
    · simp
    · intro i h1 h2
      have hi : i < l.length := by simpa using h2
      simp [h i l[i] (List.getElem_mem hi)]
  rw [e]
  simp
abbrev alphaU : List Nat := [65, 66, 67, 68, 69, 70, 71, 72, 73, 74, 75, 76, 77, 78, 79, 80, 81, 82, 83, 84, 85, 86, 87, 88, 89, 90, 97, 98, 99, 100, 101, 102, 103, 104, 105, 106, 107, 108, 109, 110, 111, 112, 113, 114, 115, 116, 117, 118, 119, 120, 121, 122]
theorem upper_one : ∀ c ∈ alphaU, (Unicode.upperOf c).length = 1 := by decide +kernel
def zUpper : V → List V → Hp → VK → Prop := fun x xs H Q => ∃ l : List Nat, x = vS l ∧ xs = [] ∧ l.length ≤ 100000 ∧ (∀ c ∈ l, c ∈ alphaU) ∧ ∀ l' : List Nat, l'.length = l.length → Q (vS l') H
theorem mt_upperA : MtR X "str.upper" zUpper := by
  intro pins s σ H x xs v us Q I rx rs h
  obtain ⟨l, rfl, rfl, hz, hl, q⟩ := h
  refine mt_upper pins s σ H _ _ v us Q I rx rs ⟨S l, rfl, rfl, by rw [S_len]; omega, ?_⟩
  rw [exS (Txt.upper (S l))]
  refine q _ ?_
  show (PySem.placed (S l) fun _ c => Unicode.upperOf c).toList.length = l.length
  rw [Array.length_toList, placed_one fun _ c hc => upper_one c (hl c hc)]
end
/-! ## dict comprehensions -/
def dputQ (Dl : Addr) (y z : V) (H : Hp) (P : Hp → Prop) : Prop := ∃ kvs k, y = kV k ∧ H Dl = some (.dK kvs) ∧ kvs.length < sizeLine ∧ P (upd H Dl (.dK (putK kvs k z)))
theorem w_dput {Dl : Addr} {y z : V} {H : Hp} {P : Hp → Prop} {kvs : List (Key × V)} {k : Key} (hy : y = kV k) (h1 : H Dl = some (.dK kvs)) (h2 : kvs.length < 16777216) (h : P (upd H Dl (.dK (putK kvs k z)))) : dputQ Dl y z H P := ⟨kvs, k, hy, h1, by rw [line_eq]; exact h2, h⟩
abbrev DcTurn (g : TG) (tt : TT) (tk tv : TE) (vs : List Nat) (σ : L2.St) (x : V) (H : Hp) (Dl : Addr) (P : Hp → Prop) : Prop := g x (wipe σ vs) H fun σ2 H2 => wipe σ2 vs = wipe σ vs ∧ tt σ2 H2 fun b H3 => if b = true then tk σ2 H3 fun y H4 => tv σ2 H4 fun z H5 => dputQ Dl y z H5 P else P H3
theorem dc_it {J : It} {n : Nat} {G : Hp → Prop} {Y : Nat → Hp → V → Hp → Prop} (w : Walk J n G Y) {g : TG} {tt : TT} {tk tv : TE} {vs : List Nat} {σ : L2.St} {H1 : Hp} {D : Addr} {Qd : Hp → Prop} (Pv : Nat → Hp → Prop) (h0 : Pv 0 (upd H1 D (.dK []))) (hG : ∀ i H, i ≤ n → Pv i H → G H)
    (hs : ∀ i x H H', i < n → Pv i H → Y i H x H' → DcTurn g tt tk tv vs σ x H' D (Pv (i + 1))) (hd : ∀ H, Pv n H → Qd H) :
    ∃ W : Nat → Nat → Hp → Prop, (∃ m, W 0 m (upd H1 D (.dK []))) ∧ ∀ i m H, W i m H →
      (J.stop i H ∧ Qd H) ∨ (J.go i H ∧ ∃ Nx : Hp → Prop, (∀ H', Nx H' → ∃ m', m' < m ∧ W (i + 1) m' H') ∧ ∀ x H', J.yld i H x H' → DcTurn g tt tk tv vs σ x H' D Nx) := by
  refine ⟨fun i m H => m = n - i ∧ i ≤ n ∧ Pv i H, ⟨n, by simp, Nat.zero_le _, h0⟩, ?_⟩
  rintro i m H ⟨rfl, hi, p⟩
  have q := hG i H hi p
  by_cases hlt : i < n
  · exact .inr ⟨w.goes i H hlt q, Pv (i + 1), fun H' p' => ⟨n - (i + 1), by omega, rfl, hlt, p'⟩, fun x H' y => hs i x H H' hlt p (w.yields i H x H' hlt q y)⟩
  · have e : i = n := by omega
    subst e
    exact .inl ⟨w.stops H q, hd H p⟩
theorem walk_enumS {l : List Nat} : Walk (Ites (S l)) l.length (fun _ => True) (YPair (fun i => some (vI i)) (fun i => (l[i]?).map fun c => vS [c])) := by
  refine ⟨fun i _ hi _ => ?_, fun _ _ => ?_, fun i H x H' hi _ y => ?_⟩
  · show i < (S l).cps.size
    simpa using hi
  · show l.length = (S l).cps.size
    simp
  · obtain ⟨T, c, rfl, hT, rfl, hc⟩ := y
    exact ⟨T, vI i, vS [c], rfl, hT, rfl, rfl, by show (l[i]?).map _ = _; rw [show l[i]? = some c by simpa using hc]; rfl⟩
section
variable {K : PySem.W.Frag} {ta : TA} {tl te tk tv : TE} {g : TG} {tt : TT} {vs : List Nat} {σ : L2.St} {H : Hp} {Q : VK}
def dcEQ (g : TG) (tt : TT) (tk tv : TE) (vs : List Nat) (σ : L2.St) (xs : List V) (H : Hp) (Q : VK) : Prop := tDc (iEnumS (fun _ H P => P xs H)) g tt tk tv vs σ H Q
theorem w_dcE (h : ta σ H fun xs H1 => dcEQ g tt tk tv vs σ xs H1 Q) : tDc (iEnumS ta) g tt tk tv vs σ H Q := h
theorem w_dcEQ {l : List Nat} (Pv : Addr → Nat → Hp → Prop) (h0 : ∀ Dl, H Dl = none → Pv Dl 0 (upd H Dl (.dK [])))
    (hs : ∀ Dl i c H' T, H Dl = none → l[i]? = some c → Pv Dl i H' → H' T = none → DcTurn g tt tk tv vs σ (.ref T) (upd H' T (.tup [vI i, vS [c]])) Dl (Pv Dl (i + 1))) (hd : ∀ Dl H', H Dl = none → Pv Dl l.length H' → Q (.ref Dl) H') : dcEQ g tt tk tv vs σ [vS l] H Q := by
  refine ⟨S l, rfl, fun Dl hD => dc_it walk_enumS (Pv Dl) (h0 Dl hD) (fun _ _ _ _ => trivial) (fun i x H1 H' hi p y => ?_) (fun H' p => hd Dl H' hD p)⟩
  obtain ⟨T, u1, u2, rfl, hT, rfl, e1, e2⟩ := y
  have e1' : vI i = u1 := Option.some.inj e1
  subst e1'
  obtain ⟨c, hc, e3⟩ := Option.map_eq_some_iff.mp e2
  subst e3
  exact hs Dl i c H1 T hD hc p hT
end
/-! ## steps -/
section
variable {σ : L2.St} {H : Hp} {Q : VK} {te : TE} {v : V} {K : PySem.W.Frag}
theorem w_revSQ (h : te σ H fun x H1 => revSQ x H1 Q) : tRevS te σ H Q := h
theorem w_revS {l : List Nat} (h1 : l.length ≤ 16777216) (h : Q (vS l.reverse) H) : revSQ (vS l) H Q := ⟨l, rfl, h1, h⟩
def revLQ (K : PySem.W.Frag) (x : V) (H : Hp) (Q : VK) : Prop := ∃ a xs, x = .ref a ∧ SqL K H a xs ∧ ∀ p, H p = none → Q (.ref p) (upd H p (.lst xs.reverse))
theorem w_revLQ (h : te σ H fun x H1 => revLQ K x H1 Q) : tRevL K te σ H Q := h
theorem w_revL {a : Addr} {xs : List V} (h1 : SqL K H a xs) (h : ∀ p, H p = none → Q (.ref p) (upd H p (.lst xs.reverse))) : revLQ K (.ref a) H Q := ⟨a, xs, rfl, h1, h⟩
theorem w_listS {l : List Nat} (h1 : l.length ≤ 16777216) (h : ∀ p, H p = none → Q (.ref p) (upd H p (.lst (l.map fun c => vS [c])))) : zListS [vS l] H Q := ⟨l, rfl, h1, h⟩
theorem w_listT {a : Addr} {ys : List V} (h1 : SqT K H a ys) (h : ∀ p, H p = none → Q (.ref p) (upd H p (.lst ys))) : zListT K [.ref a] H Q := ⟨a, ys, rfl, .inr h1, h⟩
theorem w_listL {a : Addr} {ys : List V} (h1 : SqL K H a ys) (h : ∀ p, H p = none → Q (.ref p) (upd H p (.lst ys))) : zListT K [.ref a] H Q := ⟨a, ys, rfl, .inl h1, h⟩
theorem w_find1 {l : List Nat} {c : Nat} (h1 : c ∈ l) (h : Q (vI (l.idxOf c)) H) : zFind1 (vS l) [vS [c]] H Q := ⟨l, c, rfl, rfl, h1, h⟩
theorem w_intB {b : Bool} (h : Q (.int (if b then 1 else 0)) H) : zIntB [.bl b] H Q := ⟨b, rfl, h⟩
theorem w_upper {l : List Nat} (h1 : l.length ≤ 100000) (h2 : ∀ c ∈ l, c ∈ alphaU) (h : ∀ l' : List Nat, l'.length = l.length → Q (vS l') H) : zUpper (vS l) [] H Q := ⟨l, rfl, rfl, h1, h2, h⟩
theorem w_popAt {a : Addr} {xs : List V} {k : Nat} (h1 : H a = some (.lst xs)) (h2 : xs.length ≤ 16777216) (h3 : xs[k]? = some v) (h : Q v (upd H a (.lst (xs.eraseIdx k)))) : rPopAt (.ref a) [vI k] H Q := by
  have hk := (List.getElem?_eq_some_iff.mp h3).1
  exact ⟨a, xs, k, k, v, rfl, rfl, h1, by omega, by omega, by rw [PySem.seqIndex_of (by omega) (by omega)]; simp, h3, h⟩
end
structure Rd where
  letters : List Nat
  forth : List (List Nat)
  back : List (List Nat)
  table : List (List (List Nat))
/-- rows of k places each, the places below n -/
structure Mov (k n : Nat) (moves : List (List Nat)) : Prop where
  n0 : 0 < n
  len : moves.length = n
  row : ∀ r ∈ moves, r.length = k ∧ ∀ x ∈ r, x < n
structure GoodR (R : Rd) : Prop where
  l0 : R.letters ≠ []
  nd : R.letters.Nodup
  l1 : R.letters.length ≤ 6
  f1 : R.forth.length ≤ 2000
  b1 : R.back.length ≤ 2000
  fr : Mov R.letters.length R.forth.length R.forth
  br : Mov R.letters.length R.back.length R.back
  tl : R.table.length = R.forth.length
  tr : ∀ r ∈ R.table, r.length = R.letters.length ∧ ∀ s ∈ r, s.length = R.back.length
/-! ## rows of tuples in the heap -/
def Tab {α : Type} (K : PySem.W.Frag) (H : Hp) (b : Addr) (f : α → V) (rows : List (List α)) : Prop := ∃ xs, SqT K H b xs ∧ xs.length = rows.length ∧ ∀ (i : Nat) r, rows[i]? = some r → ∃ p, xs[i]? = some (.ref p) ∧ SqT K H p (r.map f)
theorem Tab.tx {α : Type} {K : PySem.W.Frag} {H H' : Hp} {b : Addr} {f : α → V} {rows : List (List α)} (x : Tx H H') (h : Tab K H b f rows) : Tab K H' b f rows := by
  obtain ⟨xs, h1, h2, h3⟩ := h
  refine ⟨xs, x.sqT h1, h2, fun i r e => ?_⟩
  obtain ⟨p, e1, e2⟩ := h3 i r e
  exact ⟨p, e1, x.sqT e2⟩
def RdAt (K : PySem.W.Frag) (H : Hp) (a : Addr) (R : Rd) : Prop := ∃ f b t, SqT K H a [vS R.letters, .ref f, .ref b, .ref t] ∧ Tab K H f vI R.forth ∧ Tab K H b vI R.back ∧ Tab K H t vS R.table
theorem RdAt.tx {K : PySem.W.Frag} {H H' : Hp} {a : Addr} {R : Rd} (x : Tx H H') (h : RdAt K H a R) : RdAt K H' a R := by
  obtain ⟨f, b, t, h1, h2, h3, h4⟩ := h
  exact ⟨f, b, t, x.sqT h1, h2.tx x, h3.tx x, h4.tx x⟩
/-- a list of rows in the making: xs the tuples' places, rows what they hold -/
def Rows {α : Type} (K : PySem.W.Frag) (H : Hp) (f : α → V) (xs : List V) (rows : List (List α)) : Prop := xs.length = rows.length ∧ ∀ (i : Nat) r, rows[i]? = some r → ∃ p, xs[i]? = some (.ref p) ∧ SqT K H p (r.map f)
theorem Rows.nil {α : Type} {K : PySem.W.Frag} {H : Hp} {f : α → V} : Rows K H f [] [] := ⟨rfl, fun i r e => by simp at e⟩
theorem Rows.tx {α : Type} {K : PySem.W.Frag} {H H' : Hp} {f : α → V} {xs : List V} {rows : List (List α)} (x : Tx H H') (h : Rows K H f xs rows) : Rows K H' f xs rows := by
  refine ⟨h.1, fun i r e => ?_⟩
  obtain ⟨p, e1, e2⟩ := h.2 i r e
  exact ⟨p, e1, x.sqT e2⟩
theorem Rows.snoc {α : Type} {K : PySem.W.Frag} {H : Hp} {f : α → V} {xs : List V} {rows : List (List α)} {t : Addr} {row : List α} (h : Rows K H f xs rows) (ht : SqT K H t (row.map f)) : Rows K H f (xs ++ [.ref t]) (rows ++ [row]) := by
  obtain ⟨h1, h2⟩ := h
  refine ⟨by rw [List.length_append, List.length_append, h1]; rfl, fun i r e => ?_⟩
  by_cases hi : i < rows.length
  · rw [List.getElem?_append_left hi] at e
    obtain ⟨p, e1, e2⟩ := h2 i r e
    exact ⟨p, by rw [List.getElem?_append_left (by omega)]; exact e1, e2⟩
  · have hi2 : i = rows.length := by
      have := (List.getElem?_eq_some_iff.mp e).1
      rw [List.length_append, List.length_singleton] at this
      omega
    subst hi2
    rw [List.getElem?_append_right (Nat.le_refl _), Nat.sub_self] at e
    have e' : row = r := Option.some.inj e
    subst e'
    exact ⟨t, by rw [List.getElem?_append_right (by omega), h1, Nat.sub_self]; rfl, ht⟩
theorem Rows.tab {α : Type} {K : PySem.W.Frag} {H : Hp} {f : α → V} {xs : List V} {rows : List (List α)} {t : Addr} (h : Rows K H f xs rows) (ht : SqT K H t xs) : Tab K H t f rows := ⟨xs, ht, h.1, h.2⟩
/-! ## going along -/
def nums (l text : List Nat) : List Nat := text.map fun c => l.idxOf c
def stA (moves : List (List Nat)) (ns : List Nat) : Nat → Nat
  | 0 => 0
  | i + 1 => (moves.getD (stA moves ns i) []).getD (ns.getD i 0) 0
def walkA (moves : List (List Nat)) (ns : List Nat) : List Nat := (List.range (ns.length + 1)).map (stA moves ns)
def behindA (moves : List (List Nat)) (ns : List Nat) : List Nat := (walkA moves ns.reverse).reverse
def markAt (R : Rd) (ns : List Nat) (i : Nat) : Nat := ((R.table.getD (stA R.forth ns i) []).getD (ns.getD i 0) []).getD (stA R.back ns.reverse (ns.length - (i + 1))) 0
def marksOf (R : Rd) (text : List Nat) : List Nat := (List.range text.length).map (markAt R (nums R.letters text))
theorem nums_len (l text : List Nat) : (nums l text).length = text.length := List.length_map _
theorem walk_len (moves : List (List Nat)) (ns : List Nat) : (walkA moves ns).length = ns.length + 1 := by
  unfold walkA
  rw [List.length_map, List.length_range]
theorem behind_len (moves : List (List Nat)) (ns : List Nat) : (behindA moves ns).length = ns.length + 1 := by
  unfold behindA
  rw [List.length_reverse, walk_len, List.length_reverse]
theorem walk_at {moves : List (List Nat)} {ns : List Nat} {i : Nat} (h : i ≤ ns.length) : (walkA moves ns)[i]? = some (stA moves ns i) := by
  unfold walkA
  rw [List.getElem?_map, List.getElem?_range (by omega)]
  rfl
theorem behind_at {moves : List (List Nat)} {ns : List Nat} {i : Nat} (h : i ≤ ns.length) : (behindA moves ns)[i]? = some (stA moves ns.reverse (ns.length - i)) := by
  unfold behindA
  have e := walk_len moves ns.reverse
  rw [List.length_reverse] at e
  rw [List.getElem?_reverse (by omega), e, show ns.length + 1 - 1 - i = ns.length - i by omega, walk_at (by rw [List.length_reverse]; omega)]
theorem Mov.get {k n : Nat} {moves : List (List Nat)} (m : Mov k n moves) (s x : Nat) : (moves.getD s []).getD x 0 < n := by
  rw [List.getD_eq_getElem?_getD, List.getD_eq_getElem?_getD]
  cases e : moves[s]? with
  | none => simpa using m.n0
  | some r =>
    show (r[x]?).getD 0 < n
    cases e2 : r[x]? with
    | none => simpa using m.n0
    | some y => exact (m.row r (List.mem_of_getElem? e)).2 y (List.mem_of_getElem? e2)
theorem Mov.st {k n : Nat} {moves : List (List Nat)} (m : Mov k n moves) (ns : List Nat) : ∀ i, stA moves ns i < n
  | 0 => m.n0
  | i + 1 => m.get _ _
theorem nums_at {l text : List Nat} {i c : Nat} (h : text[i]? = some c) : (nums l text)[i]? = some (l.idxOf c) := by
  unfold nums
  rw [List.getElem?_map, h]
  rfl
theorem nums_lt {l text : List Nat} (h : ∀ c ∈ text, c ∈ l) : ∀ x ∈ nums l text, x < l.length := fun x hx => by
  obtain ⟨c, hc, rfl⟩ := List.mem_map.mp hx
  exact List.idxOf_lt_length_of_mem (h c hc)
theorem flat_sing (xs : List Nat) : (xs.map fun c => [c]).flatten = xs := by
  induction xs with
  | nil => rfl
  | cons a r ih => rw [List.map_cons, List.flatten_cons, ih]; rfl
theorem row_at {α : Type} {rows : List (List α)} {i : Nat} (h : i < rows.length) : rows[i]? = some (rows.getD i []) := getD_at h
/-! ## letters -/
theorem erase_facts {l : List Nat} {k c : Nat} (nd : l.Nodup) (h : l[k]? = some c) : (l.eraseIdx k).Nodup ∧ c ∉ l.eraseIdx k ∧ (∀ x ∈ l.eraseIdx k, x ∈ l) ∧ (l.eraseIdx k).length + 1 = l.length := by
  have hk := (List.getElem?_eq_some_iff.mp h).1
  have he := (List.getElem?_eq_some_iff.mp h).2
  have e : l = l.take k ++ c :: l.drop (k + 1) := by
    rw [← he]
    simp
  have e2 : l.eraseIdx k = l.take k ++ l.drop (k + 1) := List.eraseIdx_eq_take_drop_succ l k
  rw [e] at nd
  rw [List.nodup_append] at nd
  obtain ⟨n1, n2, n3⟩ := nd
  rw [List.nodup_cons] at n2
  refine ⟨?_, ?_, fun x hx => List.mem_of_mem_eraseIdx hx, by rw [List.length_eraseIdx, if_pos hk]; omega⟩
  · rw [e2, List.nodup_append]
    exact ⟨n1, n2.2, fun a ha b hb => n3 a ha b (List.mem_cons_of_mem _ hb)⟩
  · rw [e2]
    intro hm
    rcases List.mem_append.mp hm with hm | hm
    · exact n3 c hm c List.mem_cons_self rfl
    · exact n2.1 hm
theorem sorted_letters {ps : List Nat} {ys : List (List Nat)} (h : ys.Perm (ps.map fun c => [c])) : ys.flatten.Perm ps := by
  have := h.flatten
  rwa [flat_sing] at this
def topS (i : Nat) : Stmt := PySem.Challenge.pw_seamsight_k10_marks_and_states.main.body.getD i (.Pass ⟨0, 0, 0, 0⟩)
/-- the pool of draws: [the list of great numbers, a place in it, int] -/
structure Pool2 (p g : Addr) (H : Hp) : Prop where
  ne : p ≠ g
  ex : ∃ (x : Int) (k : Nat) (ns : List Int), H p = some (.lst [.ref g, .int (k : Int), .int x]) ∧ H g = some (.lst (ns.map V.int)) ∧ ns.length ≤ 1000
theorem Pool2.new {p g c : Addr} {H : Hp} {o : HO} (h : Pool2 p g H) (hc : H c = none) : Pool2 p g (upd H c o) := by
  obtain ⟨ne, x, k, ns, h1, h2, h3⟩ := h
  exact ⟨ne, x, k, ns, get_ne (ne_of_none h1 hc) h1, get_ne (ne_of_none h2 hc) h2, h3⟩
theorem Pool2.same {p g : Addr} {H H' : Hp} (h : Pool2 p g H) (s : Same H H') : Pool2 p g H' := by
  obtain ⟨ne, x, k, ns, h1, h2, h3⟩ := h
  exact ⟨ne, x, k, ns, s _ _ h1, s _ _ h2, h3⟩
theorem Pool2.lst {p g c : Addr} {H : Hp} {o : HO} (h : Pool2 p g H) (h1 : c ≠ p) (h2 : c ≠ g) : Pool2 p g (upd H c o) := by
  obtain ⟨ne, x, k, ns, e1, e2, h3⟩ := h
  exact ⟨ne, x, k, ns, get_ne h1.symm e1, get_ne h2.symm e2, h3⟩
theorem Pool2.ne1 {p g c : Addr} {H : Hp} (h : Pool2 p g H) (hc : H c = none) : c ≠ p := by
  obtain ⟨ne, x, k, ns, e1, e2, h3⟩ := h
  exact (ne_of_none e1 hc).symm
theorem Pool2.ne2 {p g c : Addr} {H : Hp} (h : Pool2 p g H) (hc : H c = none) : c ≠ g := by
  obtain ⟨ne, x, k, ns, e1, e2, h3⟩ := h
  exact (ne_of_none e2 hc).symm
theorem Kp.tx2 {p g : Addr} {H H' : Hp} (k : Kp p g H H') (h : Pool2 p g H) : Tx H H' := fun b o t e => by
  obtain ⟨ne, x, u, ns, e1, e2, h3⟩ := h
  refine k b o ?_ ?_ e
  · refine ne_of e e1 ?_
    rcases t with ⟨_, rfl⟩ | ⟨_, _, rfl⟩ <;> intro z <;> cases z
  · refine ne_of e e2 ?_
    rcases t with ⟨_, rfl⟩ | ⟨_, _, rfl⟩ <;> intro z <;> cases z
/-! ## the promises -/
def spPool (K : PySem.W.Frag) : Sp := fun vs H Q _ => ∃ (a : Addr) (ns : List Int), vs = [.ref a] ∧ SqL K H a (ns.map V.int) ∧ ns.length ≤ 63 ∧ ∀ H' p g, H p = none → H g = none → Pool2 p g H' → Same H H' → Q (.ref p) H'
def spDraw : Sp := fun vs H Q _ => ∃ (p g : Addr) (m : Int), vs = [.ref p, .int m] ∧ Pool2 p g H ∧ 1 ≤ m ∧ m < 1073741824 ∧ ∀ H' (r : Nat), (r : Int) < m → Pool2 p g H' → Kp p g H H' → Q (vI r) H'
def spLetters : Sp := fun vs H Q _ => ∃ (p g : Addr) (m : Nat), vs = [.ref p, vI m] ∧ Pool2 p g H ∧ 1 ≤ m ∧ m ≤ 50 ∧ ∀ H' l, l.length = m → l.Nodup → (∀ c ∈ l, c ∈ alphaU) → Pool2 p g H' → Kp p g H H' → Q (vS l) H'
def spMoves (K : PySem.W.Frag) : Sp := fun vs H Q _ => ∃ (p g : Addr) (l : List Nat) (m : Nat), vs = [.ref p, vS l, vI m] ∧ Pool2 p g H ∧ l.length ≤ 6 ∧ 1 ≤ m ∧ m ≤ 300 ∧ ∀ H' mv x, Mov l.length m mv → Tab K H' x vI mv → Pool2 p g H' → Kp p g H H' → Q (.ref x) H'
def spReaders (K : PySem.W.Frag) : Sp := fun vs H Q _ => ∃ (p g : Addr), vs = [.ref p] ∧ Pool2 p g H ∧ ∀ H' R x, GoodR R → R.forth.length ≤ 400 → R.back.length ≤ 400 → RdAt K H' x R → Pool2 p g H' → Kp p g H H' → Q (.ref x) H'
/-- with two letters at least -/
def spReaders2 (K : PySem.W.Frag) : Sp := fun vs H Q _ => ∃ (p g : Addr), vs = [.ref p] ∧ Pool2 p g H ∧ ∀ H' R x, GoodR R → 2 ≤ R.letters.length → R.forth.length ≤ 400 → R.back.length ≤ 400 → RdAt K H' x R → Pool2 p g H' → Kp p g H H' → Q (.ref x) H'
def spText : Sp := fun vs H Q _ => ∃ (p g : Addr) (l : List Nat) (m : Nat), vs = [.ref p, vS l, vI m] ∧ Pool2 p g H ∧ l ≠ [] ∧ l.length ≤ 6 ∧ 1 ≤ m ∧ m ≤ 2000 ∧ ∀ H' t, t.length = m → (∀ c ∈ t, c ∈ l) → Pool2 p g H' → Kp p g H H' → Q (vS t) H'
def spDoubled (K : PySem.W.Frag) : Sp := fun vs H Q _ => ∃ (p g x : Addr) (R : Rd), vs = [.ref p, .ref x] ∧ Pool2 p g H ∧ RdAt K H x R ∧ GoodR R ∧ R.forth.length ≤ 400 ∧ R.back.length ≤ 400 ∧
  ∀ H' R2 y, GoodR R2 → R2.letters = R.letters → (∀ text, (∀ c ∈ text, c ∈ R.letters) → marksOf R2 text = marksOf R text) → RdAt K H' y R2 → Pool2 p g H' → Kp p g H H' → Q (.ref y) H'
def GoodT (l text : List Nat) : Prop := (∀ c ∈ text, c ∈ l) ∧ text.length ≤ 3000
def spPlaces : Sp := fun vs H Q _ => ∃ l : List Nat, vs = [vS l] ∧ l.Nodup ∧ l.length ≤ 1000 ∧ ∀ H' d kvs, Same H H' → H' d = some (.dK kvs) → (∀ c ∈ l, valV kvs (Sum.inr (S [c])) = some (vI (l.idxOf c))) → Q (.ref d) H'
def spNumbers : Sp := fun vs H Q _ => ∃ l text : List Nat, vs = [vS l, vS text] ∧ l.Nodup ∧ l.length ≤ 1000 ∧ GoodT l text ∧ ∀ H' d, Same H H' → H' d = some (.lst ((nums l text).map vI)) → Q (.ref d) H'
def spAlong (K : PySem.W.Frag) : Sp := fun vs H Q _ => ∃ (a b : Addr) (k n : Nat) (mv : List (List Nat)) (ns : List Nat), vs = [.ref a, .ref b] ∧ Tab K H a vI mv ∧ Mov k n mv ∧ H b = some (.lst (ns.map vI)) ∧ (∀ x ∈ ns, x < k) ∧ ns.length ≤ 3000 ∧
  ∀ H' d, Same H H' → H' d = some (.lst ((walkA mv ns).map vI)) → Q (.ref d) H'
def spForth (K : PySem.W.Frag) : Sp := fun vs H Q _ => ∃ (a : Addr) (R : Rd) (text : List Nat), vs = [.ref a, vS text] ∧ RdAt K H a R ∧ GoodR R ∧ GoodT R.letters text ∧ ∀ H' t, Same H H' → SqT K H' t ((walkA R.forth (nums R.letters text)).map vI) → Q (.ref t) H'
def spBack (K : PySem.W.Frag) : Sp := fun vs H Q _ => ∃ (a : Addr) (R : Rd) (text : List Nat), vs = [.ref a, vS text] ∧ RdAt K H a R ∧ GoodR R ∧ GoodT R.letters text ∧ ∀ H' t, Same H H' → SqT K H' t ((behindA R.back (nums R.letters text)).map vI) → Q (.ref t) H'
def spMarks (K : PySem.W.Frag) : Sp := fun vs H Q _ => ∃ (a : Addr) (R : Rd) (text : List Nat), vs = [.ref a, vS text] ∧ RdAt K H a R ∧ GoodR R ∧ GoodT R.letters text ∧ ∀ H', Same H H' → Q (vS (marksOf R text)) H'
def spLAlong (K : PySem.W.Frag) : Sp := fun vs H Q _ => ∃ (a : Addr) (n : Nat) (mv : List (List Nat)) (l text : List Nat), vs = [.ref a, vS l, vS text] ∧ Tab K H a vI mv ∧ Mov l.length n mv ∧ GoodT l text ∧
  ∀ H' d, H d = none → Same H H' → H' d = some (.lst ((walkA mv (nums l text)).map vI)) → Q (.ref d) H'
def DueAt (H : Hp) (d : Addr) (R : Rd) (text : List Nat) : Prop := ∃ a b, H d = some (.lst [.ref a, .ref b, vS (marksOf R text)]) ∧ H a = some (.lst ((walkA R.forth (nums R.letters text)).map vI)) ∧ H b = some (.lst ((behindA R.back (nums R.letters text)).map vI))
theorem DueAt.same {H H' : Hp} {d : Addr} {R : Rd} {text : List Nat} (s : Same H H') (h : DueAt H d R text) : DueAt H' d R text := by
  obtain ⟨a, b, h1, h2, h3⟩ := h
  exact ⟨a, b, s _ _ h1, s _ _ h2, s _ _ h3⟩
/-- away from the pool -/
structure DueOff (H : Hp) (p g d : Addr) (R : Rd) (text : List Nat) : Prop where
  h : DueAt H d R text
theorem DueAt.kp {p g : Addr} {H H' : Hp} {d : Addr} {R : Rd} {text : List Nat} (hP : Pool2 p g H) (k : Kp p g H H') (h : DueAt H d R text) (hd : d ≠ p ∧ d ≠ g) (ha : ∀ a b, H d = some (.lst [.ref a, .ref b, vS (marksOf R text)]) → a ≠ p ∧ a ≠ g ∧ b ≠ p ∧ b ≠ g) : DueAt H' d R text := by
  obtain ⟨a, b, h1, h2, h3⟩ := h
  obtain ⟨n1, n2, n3, n4⟩ := ha a b h1
  exact ⟨a, b, k _ _ hd.1 hd.2 h1, k _ _ n1 n2 h2, k _ _ n3 n4 h3⟩
def spDue (K : PySem.W.Frag) : Sp := fun vs H Q _ => ∃ (x : Addr) (R : Rd) (text : List Nat), vs = [.ref x, vS text] ∧ RdAt K H x R ∧ GoodR R ∧ GoodT R.letters text ∧ ∀ H' d a b, H d = none → H a = none → H b = none → Same H H' →
  H' d = some (.lst [.ref a, .ref b, vS (marksOf R text)]) → H' a = some (.lst ((walkA R.forth (nums R.letters text)).map vI)) → H' b = some (.lst ((behindA R.back (nums R.letters text)).map vI)) → Q (.ref d) H'
def spTold (K : PySem.W.Frag) : Sp := fun vs H Q _ => ∃ (t d : Addr) (ns : List Nat), vs = [.ref t, .ref d] ∧ SqT K H t (ns.map vI) ∧ H d = some (.lst (ns.map vI)) ∧ ns.length ≤ 100000 ∧ ∀ H', Same H H' → Q (.bl true) H'
def spHolds (K : PySem.W.Frag) : Sp := fun vs H Q _ => ∃ (x d : Addr) (R : Rd) (text : List Nat), vs = [.ref x, vS text, .ref d] ∧ RdAt K H x R ∧ GoodR R ∧ GoodT R.letters text ∧ DueAt H d R text ∧ ∀ H', Same H H' → Q (.bl true) H'
def spChanged (K : PySem.W.Frag) : Sp := fun vs H Q _ => ∃ (x d : Addr) (R : Rd) (text : List Nat) (i : Nat), vs = [.ref x, .ref d, vS text, vI i] ∧ RdAt K H x R ∧ GoodR R ∧ GoodT R.letters text ∧ DueAt H d R text ∧ i < text.length ∧
  ∀ H' y R', Same H H' → RdAt K H' y R' → GoodR R' → R'.letters = R.letters → (marksOf R' text).getD i 0 ≠ (marksOf R text).getD i 0 → Q (.ref y) H'
def spLaw (K : PySem.W.Frag) : Sp := fun vs H Q _ => ∃ (a : Addr) (ns : List Int), vs = [.ref a] ∧ SqL K H a (ns.map V.int) ∧ ns.length ≤ 63 ∧ ∀ H', Q (.bl true) H'
local macro_rules | `(tactic| walk_at "tx") => `(tactic| first
  | exact Tx.refl _
  | assumption
  | (refine Tx.new ?_ (by assumption); walk_at "tx")
  | (refine Tx.lst ?_ (by walk_at "get"); walk_at "tx")
  | (refine Tx.dk ?_ (by walk_at "get"); walk_at "tx"))
local macro_rules | `(tactic| walk_at "same") => `(tactic| first
  | assumption
  | exact Same.refl _
  | (refine Same.mut ?_ (by assumption); walk_at "same")
  | (refine Same.new' ?_ (by assumption); walk_at "same"))
local macro_rules | `(tactic| walk_at "ne") => `(tactic| first
  | assumption
  | exact Ne.symm (by assumption)
  | exact (ne_of_none (by assumption) (by assumption))
  | exact (ne_of_none (by assumption) (by assumption)).symm)
local macro_rules | `(tactic| walk_at "get") => `(tactic| first
  | assumption
  | exact upd_same
  | (refine get_ne ?_ ?_; (walk_at "ne"); (walk_at "get")))
local macro_rules | `(tactic| walk_at "sql") => `(tactic| first
  | assumption
  | exact SqL.of (by walk_at "get"))
local macro_rules | `(tactic| walk_at "sqt") => `(tactic| first
  | assumption
  | exact SqT.of (by walk_at "get")
  | (refine Tx.sqT ?_ (by assumption); walk_at "tx"))
local macro_rules | `(tactic| walk_at "at") => `(tactic| first
  | rfl
  | exact atI_nat (by assumption))
local macro_rules | `(tactic| walk_at "side") => `(tactic| first
  | assumption
  | omega
  | decide
  | (simp only [List.length_append, List.length_map, List.length_cons, List.length_nil] ; omega))
local macro_rules | `(tactic| walk_at "cond") => `(tactic| first
  | (show (0 : Int) < _; omega)
  | (show _ ∧ _; constructor <;> omega)
  | (refine .inl ⟨?_, ?_⟩ <;> omega)
  | (refine .inr ⟨?_, ?_⟩ <;> omega))
local macro_rules | `(tactic| walk_at "s") => `(tactic| first
  | (with_reducible refine w_seq ?_)
  | (with_reducible refine w_asg ?_)
  | (with_reducible refine w_gName ?_)
  | ((with_reducible refine' w_var ?hv ?_); (case hv => rfl))
  | (with_reducible refine w_c ?_)
  | (with_reducible refine w_op ?_)
  | (with_reducible refine w_un ?_)
  | (with_reducible refine w_nil ?_)
  | (with_reducible refine w_cons ?_)
  | (with_reducible refine w_CB ?_)
  | (with_reducible refine w_call ?_)
  | (with_reducible refine w_drop ?_)
  | (with_reducible refine w_ret ?_)
  | (with_reducible refine w_retN ?_)
  | (with_reducible refine w_next ?_)
  | (with_reducible refine w_brk ?_)
  | (with_reducible refine w_cont ?_)
  | (with_reducible refine w_if ?_)
  | (with_reducible refine w_test ?_)
  | (with_reducible refine w_tB ?_)
  | (with_reducible refine w_tru ?_)
  | (with_reducible refine w_exbl ?_)
  | (with_reducible refine w_and ?_)
  | (with_reducible refine w_or ?_)
  | (with_reducible refine w_not ?_)
  | (with_reducible refine w_andV ?_)
  | (with_reducible refine w_orV ?_)
  | (with_reducible refine w_notV ?_)
  | (with_reducible refine w_ifE ?_)
  | (with_reducible refine w_tup ?_)
  | (with_reducible refine w_lst ?_)
  | (with_reducible refine w_sl ?_)
  | (with_reducible refine w_nopart ?_)
  | (with_reducible refine w_part ?_)
  | (with_reducible refine w_exint ?_)
  | (with_reducible refine w_BM ?_)
  | (with_reducible refine w_BM0 ?_)
  | (with_reducible refine w_M0 ?_)
  | (with_reducible refine w_M1 ?_)
  | (with_reducible refine w_exstr ?_)
  | (with_reducible refine w_rI0 ?_)
  | (with_reducible refine w_rU ?_)
  | (with_reducible refine w_eqI ?_)
  | (with_reducible refine w_neI ?_)
  | (with_reducible refine w_eqS ?_)
  | (with_reducible refine w_neS ?_)
  | (with_reducible refine w_for1 ?_)
  | (with_reducible refine w_for2 ?_)
  | (with_reducible refine w_forL ?_)
  | (with_reducible refine w_forT ?_)
  | (with_reducible refine w_forE ?_)
  | (with_reducible refine w_lcT ?_)
  | (with_reducible refine w_lcL ?_)
  | (with_reducible refine w_yes ?_)
  | (with_reducible refine w_dgetQ ?_)
  | (with_reducible refine w_dinQ ?_)
  | (with_reducible refine w_dninQ ?_)
  | (with_reducible refine w_forEL ?_)
  | (with_reducible refine w_forS ?_)
  | (with_reducible refine w_lcR1 ?_)
  | (with_reducible refine w_lcR2 ?_)
  | (with_reducible refine w_lcS ?_)
  | (with_reducible refine w_augS ?_)
  | (with_reducible refine w_ipI ?_)
  | (with_reducible refine w_tupRg ?_)
  | (with_reducible refine w_rg1 ?_)
  | (with_reducible refine w_rg1Q ?_)
  | (with_reducible refine w_revSQ ?_)
  | (with_reducible refine w_revLQ ?_)
  | (with_reducible refine w_dcE ?_)
  | (with_reducible refine w_intB ?_)
  | ((with_reducible refine' w_revS ?h ?_); (case h => walk_at "side"))
  | (with_reducible refine w_isN ?_)
  | (with_reducible refine w_notN ?_)
  | (with_reducible refine w_int ?_)
  | (with_reducible refine w_abs ?_)
  | (with_reducible refine w_min ?_)
  | ((with_reducible refine' w_gTup ?h1 ?h2 ?_); (case h1 => walk_at "sqt"); (case h2 => rfl))
  | ((with_reducible refine' w_ixL ?h1 ?h2 ?_); (case h1 => walk_at "sql"); (case h2 => walk_at "at"))
  | ((with_reducible refine' w_ixT ?h1 ?h2 ?_); (case h1 => walk_at "sqt"); (case h2 => walk_at "at"))
  | ((with_reducible refine' w_ixAT ?h1 ?h2 ?_); (case h1 => walk_at "sqt"); (case h2 => walk_at "at"))
  | ((with_reducible refine' w_ixS ?h1 ?h2 ?_); (case h1 => walk_at "side"); (case h2 => walk_at "at"))
  | ((with_reducible refine' w_tyL ?h ?_); (case h => walk_at "get"))
  | ((with_reducible refine' w_truS ?h ?_); (case h => walk_at "side"))
  | ((with_reducible refine' w_truL ?h ?_); (case h => walk_at "sql"))
  | ((with_reducible refine' w_truT ?h ?_); (case h => walk_at "sqt"))
  | ((with_reducible refine' w_append ?h1 ?h2 ?_); (case h1 => walk_at "get"); (case h2 => walk_at "side"))
  | ((with_reducible refine' w_lenS ?h ?_); (case h => walk_at "side"))
  | ((with_reducible refine' w_lenL ?h ?_); (case h => walk_at "sql"))
  | ((with_reducible refine' w_lenT ?h ?_); (case h => walk_at "sqt"))
  | ((with_reducible refine' w_addS ?h ?_); (case h => walk_at "side"))
  | ((with_reducible refine' w_mulS ?h1 ?h2 ?h3 ?_); (case h1 => walk_at "side"); (case h2 => walk_at "side"); (case h3 => walk_at "side"))
  | ((with_reducible refine' w_slS ?h ?_); (case h => walk_at "side"))
  | ((with_reducible refine' w_setL ?h1 ?h2 ?_); (case h1 => walk_at "get"); (case h2 => rfl))
  | ((with_reducible refine' w_rI ?h ?_); (case h => walk_at "cond"))
  | (with_reducible refine w_gCons ?_)
  | (with_reducible refine w_gNil ?_)
  | (with_reducible refine w_gSub ?_)
  | (with_reducible refine iteT ?_)
  | (with_reducible refine iteF ?_)
  | (with_reducible refine ite_nt ?_)
  | (with_reducible refine ite_nf ?_)
  | ((with_reducible refine' w_eqR ?h ?_); (case h => rfl)))
local macro_rules | `(tactic| walk_at "go") => `(tactic| repeat walk_at "s")
section
variable {P : Program} {w : World} {K : PySem.W.Frag} {mg : Str → Option Value} {base : Heap}
abbrev s_letter_places : Stmt := topS 1
theorem sc_letter_places : FnScope ["letters", "place", "letter"] ["letters"] (defScope s_letter_places) := ⟨rfl, rfl, rfl, by decide +kernel, rfl, by decide +kernel, by decide +kernel⟩
abbrev kvL (l : List Nat) (i : Nat) : List (Key × V) := ((l.take i).zipIdx).map fun p => (Sum.inr (S [p.1]), vI p.2)
theorem kvL_snoc {l : List Nat} {i c : Nat} (h : l[i]? = some c) : kvL l (i + 1) = kvL l i ++ [(Sum.inr (S [c]), vI i)] := by
  unfold kvL
  rw [List.take_succ_eq_append_getElem (List.getElem?_eq_some_iff.mp h).1, (List.getElem?_eq_some_iff.mp h).2, List.zipIdx_append, List.map_append]
  have e : (l.take i).length = i := by
    rw [List.length_take]
    have := (List.getElem?_eq_some_iff.mp h).1
    omega
  rw [e]
  simp
theorem kvL_gen : ∀ (l : List Nat) (k c : Nat), valV ((l.zipIdx k).map fun p => (Sum.inr (S [p.1]), vI p.2)) (Sum.inr (S [c]) : Key) = if c ∈ l then some (vI (k + l.idxOf c)) else none
  | [], k, c => rfl
  | a :: r, k, c => by
    rw [List.zipIdx_cons]
    show valV ((Sum.inr (S [a]), vI k) :: _) _ = _
    by_cases h : a = c
    · subst h
      rw [valV_pos rfl, if_pos List.mem_cons_self, List.idxOf_cons_self]
      rfl
    · have hs : ¬ (Sum.inr (S [a]) : Key) = Sum.inr (S [c]) := fun e => h (by
        have := S_inj.mp (Sum.inr.inj e)
        exact List.head_eq_of_cons_eq this)
      rw [valV_neg hs, kvL_gen r (k + 1) c]
      have h' : ¬ c = a := fun e => h e.symm
      by_cases hc : c ∈ r
      · rw [if_pos hc, if_pos (List.mem_cons_of_mem _ hc), List.idxOf_cons, show (a == c) = false by simpa using h]
        show some (vI (k + 1 + r.idxOf c)) = some (vI (k + (r.idxOf c + 1)))
        rw [show k + 1 + r.idxOf c = k + (r.idxOf c + 1) by omega]
      · rw [if_neg hc, if_neg (by simp [h', hc])]
theorem kvL_none {l : List Nat} {i c : Nat} (nd : l.Nodup) (h : l[i]? = some c) : valV (kvL l i) (Sum.inr (S [c])) = none := by
  unfold kvL
  rw [kvL_gen, if_neg]
  intro hm
  obtain ⟨j, hj⟩ := List.mem_iff_getElem?.mp hm
  have hji : j < i := by
    have := (List.getElem?_eq_some_iff.mp hj).1
    rw [List.length_take] at this
    omega
  rw [List.getElem?_take_of_lt hji] at hj
  have hjl := (List.getElem?_eq_some_iff.mp hj).1
  have := (List.getElem?_inj hjl nd).mp (hj.trans h.symm)
  omega
theorem ok_letter_places (F : At K mg "letter_places" s_letter_places) (b_enumerate : mg "enumerate" = none) : Cal P w K mg base 1 "letter_places" spPlaces := by
  refine F.cal sc_letter_places (fun vs H Q E h => ?_) (fun _ _ _ _ _ _ us hl => match us, hl with | [_], _ => rfl) (fun f cdv A outer s H vs Q E hr h => ?_)
  · obtain ⟨l, rfl, _⟩ := h
    rfl
  · obtain ⟨l, rfl, nd, hl, q⟩ := h
    refine ⟨_, (pss_one (ps_ret (pe_dc (own := [("place", 1), ("letter", 2)]) (g := gTup K 2 (gCons (gName 1) (gCons (gName 2) gNil))) (tt := tYes) rfl sc_letter_places.nd (pi_enumS (by rfl) b_enumerate (pa_cons (pv 0) pa_nil)) (blkOk_by (N := ["letters", "place", "letter"]) (sc := defScope s_letter_places) (by decide +kernel)) (fun _ _ _ _ _ => (pg_tup rfl (pgs_cons (pg_name (i := 1) sc_letter_places.nd rfl (.inl rfl)) (pgs_cons (pg_name (i := 2) sc_letter_places.nd rfl (.inl rfl)) pgs_nil)))) (fun _ _ _ _ _ => pts_nil) (fun _ _ _ _ _ => (pv 2)) (fun _ _ _ _ _ => (pv 1))))), ?_⟩
    refine st_is (σ' := start _ _) (σ := [some (vS l), none, none]) rfl ?_
    try dsimp only [cxOf, Cx.nox, Cx.wish]
    walk_at "go"
    refine w_dcEQ (fun Dl i H' => H' Dl = some (.dK (kvL l i)) ∧ Same H H') (fun Dl hD => ⟨upd_same, same_new hD⟩) ?_ ?_
    · rintro Dl i c H' T hD hi ⟨hd, sm⟩ hT
      have hd2 : upd H' T (.tup [vI i, vS [c]]) Dl = some (.dK (kvL l i)) := get_ne (ne_of_none hd hT) hd
      have hil := (List.getElem?_eq_some_iff.mp hi).1
      walk_at "go"
      refine ⟨rfl, ?_⟩
      walk_at "go"
      refine w_dput (k := Sum.inr (S [c])) rfl hd2 (by rw [List.length_map, List.length_zipIdx, List.length_take]; omega) ⟨?_, Same.mut (Same.new' sm hT) hD⟩
      rw [upd_same, putK_new _ (kvL_none nd hi), kvL_snoc hi]
    · rintro Dl H' hD ⟨hd, sm⟩
      refine q _ _ _ sm hd fun c hc => ?_
      unfold kvL
      rw [List.take_length, kvL_gen, if_pos hc, Nat.zero_add]
abbrev s_letter_numbers : Stmt := topS 3
theorem sc_letter_numbers : FnScope ["letters", "text", "places", "letter"] ["letters", "text"] (defScope s_letter_numbers) := ⟨rfl, rfl, rfl, by decide +kernel, rfl, by decide +kernel, by decide +kernel⟩
theorem ok_letter_numbers (c_letter_places : Cal P w K mg base 1 "letter_places" spPlaces) (F : At K mg "letter_numbers" s_letter_numbers) : Cal P w K mg base 2 "letter_numbers" spNumbers := by
  refine F.cal sc_letter_numbers (fun vs H Q E h => ?_) (fun _ _ _ _ _ _ us hl => match us, hl with | [_, _], _ => rfl) (fun f cdv A outer s H vs Q E hr h => ?_)
  · obtain ⟨l, text, rfl, _⟩ := h
    rfl
  · obtain ⟨l, text, rfl, nd, hl, ⟨ht, hz⟩, q⟩ := h
    refine ⟨_, (pss_cons (ps_set (i := 2) sc_letter_numbers.nd rfl (.inr rfl) (pe_c c_letter_places hr (by decide) (by rfl) (pa_cons (pv 0) pa_nil)))
      (pss_one (ps_ret (pe_lc (own := [("letter", 3)]) (g := gName 3) (tt := tYes)  rfl sc_letter_numbers.nd (pi_str (pv 1)) (blkOk_by (N := ["letters", "text", "places", "letter"]) (sc := defScope s_letter_numbers) (by decide +kernel)) (fun _ _ _ _ _ => (pg_name (i := 3) sc_letter_numbers.nd rfl (.inl rfl))) (fun _ _ _ _ _ => pts_nil) (fun _ _ _ _ _ => (pe_dget hr.units1 (pv 2) (pv 3) (fun _ _ => rfl))))))), ?_⟩
    refine st_is (σ' := start _ _) (σ := [some (vS l), some (vS text), none, none]) rfl ?_
    try dsimp only [cxOf, Cx.nox, Cx.wish]
    walk_at "go"
    refine ⟨l, rfl, nd, hl, fun H1 d kvs sm1 hd hk => ?_⟩
    walk_at "go"
    refine w_lcSQ (fun Dl i H' => H' Dl = some (.lst ((nums l (text.take i)).map vI)) ∧ H' d = some (.dK kvs) ∧ Same H1 H') (fun Dl hD => ⟨upd_same, get_ne (ne_of_none hd hD) hd, same_new hD⟩) ?_ ?_
    · rintro Dl i c H' hD hi ⟨h1, h2, sm⟩
      have hc := ht c (List.mem_of_getElem? hi)
      have hil := (List.getElem?_eq_some_iff.mp hi).1
      walk_at "go"
      refine ⟨rfl, ?_⟩
      walk_at "go"
      refine w_dget (k := Sum.inr (S [c])) rfl h2 (hk c hc) ?_
      refine w_acc h1 (by rw [List.length_map, nums_len, List.length_take]; omega) ⟨?_, get_ne (ne_of_none hd hD) h2, Same.mut sm hD⟩
      rw [upd_same, List.take_succ_eq_append_getElem hil, (List.getElem?_eq_some_iff.mp hi).2]
      unfold nums
      rw [List.map_append, List.map_append]
      rfl
    · rintro Dl H' hD ⟨h1, h2, sm⟩
      rw [List.take_length] at h1
      exact q _ _ (sm1.trans sm) h1
abbrev s_states_along : Stmt := topS 4
theorem sc_states_along : FnScope ["steps", "numbers", "state", "states", "number"] ["steps", "numbers"] (defScope s_states_along) := ⟨rfl, rfl, rfl, by decide +kernel, rfl, by decide +kernel, by decide +kernel⟩
theorem ok_states_along (F : At K mg "states_along" s_states_along) : Cal P w K mg base 1 "states_along" (spAlong K) := by
  refine F.cal sc_states_along (fun vs H Q E h => ?_) (fun _ _ _ _ _ _ us hl => match us, hl with | [_, _], _ => rfl) (fun f cdv A outer s H vs Q E hr h => ?_)
  · obtain ⟨a, b, k, n, mv, ns, rfl, _⟩ := h
    rfl
  · obtain ⟨a, b, k, n, mv, ns, rfl, ⟨xs, ha, hxl, hrow⟩, hm, hb, hlt, hz, q⟩ := h
    refine ⟨_, (pss_cons (ps_set (i := 2) sc_states_along.nd rfl (.inl rfl) pe_int)
      (pss_cons (ps_set (i := 3) sc_states_along.nd rfl (.inl rfl) (pe_lst (pa_cons pe_int pa_nil)))
      (pss_cons (ps_for PassesOwn.never rfl (pi_list (pv 1)) (pg_name (i := 4) sc_states_along.nd rfl (.inl rfl))
      (pss_cons (ps_set (i := 2) sc_states_along.nd rfl (.inl rfl) (pe_ix ix_tup (pe_ix ix_tup (pv 0) (pv 2) (fun _ _ => rfl)) (pv 4) (fun _ _ => rfl)))
      (pss_one (ps_expr (pe_bm PySem.F.plainAttrs_list PySem.F.slot_list_append PySem.F.type_list_append mt_append (pv 3) (pa_cons (pv 2) pa_nil))))))
      (pss_one (ps_ret (pv 3)))))), ?_⟩
    refine st_is (σ' := start _ _) (σ := [some (.ref a), some (.ref b), none, none, none]) rfl ?_
    try dsimp only [cxOf, Cx.nox, Cx.wish]
    walk_at "go"
    refine w_new (by simp) fun d hd => ?_
    have hbd : b ≠ d := ne_of_none hb hd
    have hb2 : upd H d (.lst [V.int 0]) b = some (.lst (ns.map vI)) := get_ne hbd hb
    walk_at "go"
    refine w_lstQ (SqL.of hb2) (fun i σ H' => ∃ v, σ = [some (.ref a), some (.ref b), some (vI (stA mv ns i)), some (.ref d), v] ∧ H' d = some (.lst (((List.range (i + 1)).map (stA mv ns)).map vI)) ∧ H' b = some (.lst (ns.map vI)) ∧ Same H H')
      ⟨_, rfl, upd_same, hb2, same_new hd⟩ (fun i σ H' _ ⟨_, _, _, h, _⟩ => SqL.of h) ?_ ?_
    · rintro i x σ H' hi ⟨v, rfl, h1, h2, sm⟩
      obtain ⟨x, hx, rfl⟩ := map_at hi
      have hil := (List.getElem?_eq_some_iff.mp hx).1
      have hs := hm.st ns i
      obtain ⟨r, hr⟩ : ∃ r, mv[stA mv ns i]? = some r := ⟨_, List.getElem?_eq_getElem (by rw [hm.len]; exact hs)⟩
      obtain ⟨p, hp1, hp2⟩ := hrow _ r hr
      have hrl := (hm.row r (List.mem_of_getElem? hr)).1
      have hxk := hlt x (List.mem_of_getElem? hx)
      have hro := getD_at (xs := r) (i := x) (d := 0) (by omega)
      have tx := Tx.of_same sm
      have hll : (((List.range (i + 1)).map (stA mv ns)).map vI).length < 16777216 := by rw [List.length_map, List.length_map, List.length_range]; omega
      have e : (mv.getD (stA mv ns i) []).getD (ns.getD i 0) 0 = r.getD x 0 := by rw [getD_of hr, getD_of hx]
      walk_at "go"
      refine w_ixT (tx.sqT hp2) (atI_nat (at_map hro)) ?_
      walk_at "go"
      refine ⟨some (vI x), ?_, ?_, get_ne hbd h2, Same.mut sm hd⟩
      · show _ = [_, _, some (vI ((mv.getD (stA mv ns i) []).getD (ns.getD i 0) 0)), _, _]
        rw [e]
        rfl
      · rw [upd_same, List.range_succ (n := i + 1), List.map_append, List.map_append]
        show _ = some (HO.lst (_ ++ [vI ((mv.getD (stA mv ns i) []).getD (ns.getD i 0) 0)]))
        rw [e]
    · rintro σ H' ⟨v, rfl, h1, h2, sm⟩
      rw [List.length_map] at h1
      walk_at "go"
      exact q _ _ sm h1
abbrev s_forth_states : Stmt := topS 5
theorem sc_forth_states : FnScope ["readers", "text", "numbers"] ["readers", "text"] (defScope s_forth_states) := ⟨rfl, rfl, rfl, by decide +kernel, rfl, by decide +kernel, by decide +kernel⟩
theorem ok_forth_states (c_letter_numbers : Cal P w K mg base 2 "letter_numbers" spNumbers) (c_states_along : Cal P w K mg base 1 "states_along" (spAlong K)) (F : At K mg "forth_states" s_forth_states) (b_tuple : mg "tuple" = none) : Cal P w K mg base 3 "forth_states" (spForth K) := by
  refine F.cal sc_forth_states (fun vs H Q E h => ?_) (fun _ _ _ _ _ _ us hl => match us, hl with | [_, _], _ => rfl) (fun f cdv A outer s H vs Q E hr h => ?_)
  · obtain ⟨a, R, text, rfl, _⟩ := h
    rfl
  · obtain ⟨a, R, text, rfl, hR, hg, ht, q⟩ := h
    refine ⟨_, (pss_cons (ps_set (i := 2) sc_forth_states.nd rfl (.inl rfl) (pe_c c_letter_numbers hr (by decide) (by rfl) (pa_cons (pe_ix ix_tup (pv 0) pe_int (fun _ _ => rfl)) (pa_cons (pv 1) pa_nil))))
      (pss_one (ps_ret (pe_callTy call_tupL (by rfl) b_tuple (by decide +kernel) (pa_cons (pe_c c_states_along hr (by decide) (by rfl) (pa_cons (pe_ix ix_tup (pv 0) pe_int (fun _ _ => rfl)) (pa_cons (pv 2) pa_nil))) pa_nil))))), ?_⟩
    refine st_is (σ' := start _ _) (σ := [some (.ref a), some (vS text), none]) rfl ?_
    try dsimp only [cxOf, Cx.nox, Cx.wish]
    obtain ⟨pf, pb, pt, ha, hf, hb, htb⟩ := hR
    have l1 := hg.l1
    walk_at "go"
    refine ⟨R.letters, text, rfl, hg.nd, by omega, ht, fun H1 d sm1 hd => ?_⟩
    have tx1 := Tx.of_same sm1
    walk_at "go"
    refine ⟨pf, d, _, _, R.forth, nums R.letters text, rfl, hf.tx tx1, hg.fr, hd, nums_lt ht.1, by rw [nums_len]; exact ht.2, fun H2 e sm2 he => ?_⟩
    walk_at "go"
    refine w_tupL (SqL.of he) fun t ht => ?_
    exact q _ t ((sm1.trans sm2).trans (same_new ht)) (SqT.of upd_same)
abbrev s_back_states : Stmt := topS 6
theorem sc_back_states : FnScope ["readers", "text", "numbers", "states"] ["readers", "text"] (defScope s_back_states) := ⟨rfl, rfl, rfl, by decide +kernel, rfl, by decide +kernel, by decide +kernel⟩
theorem ok_back_states (c_letter_numbers : Cal P w K mg base 2 "letter_numbers" spNumbers) (c_states_along : Cal P w K mg base 1 "states_along" (spAlong K)) (F : At K mg "back_states" s_back_states) (b_tuple : mg "tuple" = none) : Cal P w K mg base 3 "back_states" (spBack K) := by
  refine F.cal sc_back_states (fun vs H Q E h => ?_) (fun _ _ _ _ _ _ us hl => match us, hl with | [_, _], _ => rfl) (fun f cdv A outer s H vs Q E hr h => ?_)
  · obtain ⟨a, R, text, rfl, _⟩ := h
    rfl
  · obtain ⟨a, R, text, rfl, hR, hg, ht, q⟩ := h
    refine ⟨_, (pss_cons (ps_set (i := 2) sc_back_states.nd rfl (.inl rfl) (pe_c c_letter_numbers hr (by decide) (by rfl) (pa_cons (pe_ix ix_tup (pv 0) pe_int (fun _ _ => rfl)) (pa_cons (pv 1) pa_nil))))
      (pss_cons (ps_set (i := 3) sc_back_states.nd rfl (.inl rfl) (pe_c c_states_along hr (by decide) (by rfl) (pa_cons (pe_ix ix_tup (pv 0) pe_int (fun _ _ => rfl)) (pa_cons (pe_revL (pv 2)) pa_nil))))
      (pss_one (ps_ret (pe_callTy call_tupL (by rfl) b_tuple (by decide +kernel) (pa_cons (pe_revL (pv 3)) pa_nil)))))), ?_⟩
    refine st_is (σ' := start _ _) (σ := [some (.ref a), some (vS text), none, none]) rfl ?_
    try dsimp only [cxOf, Cx.nox, Cx.wish]
    obtain ⟨pf, pb, pt, ha, hf, hb, htb⟩ := hR
    have l1 := hg.l1
    walk_at "go"
    refine ⟨R.letters, text, rfl, hg.nd, by omega, ht, fun H1 d sm1 hd => ?_⟩
    have tx1 := Tx.of_same sm1
    walk_at "go"
    refine w_revL (SqL.of hd) fun u hu => ?_
    have sm2 := sm1.trans (same_new (o := .lst ((nums R.letters text).map vI).reverse) hu)
    have hu2 : upd H1 u (.lst ((nums R.letters text).map vI).reverse) u = some (.lst ((nums R.letters text).reverse.map vI)) := by rw [upd_same, List.map_reverse]
    generalize upd H1 u (.lst ((nums R.letters text).map vI).reverse) = H2 at sm2 hu2 ⊢
    walk_at "go"
    refine ⟨pb, u, _, _, R.back, (nums R.letters text).reverse, rfl, hb.tx (Tx.of_same sm2), hg.br, hu2, fun x hx => nums_lt ht.1 x (List.mem_reverse.mp hx), by rw [List.length_reverse, nums_len]; exact ht.2, fun H3 e sm3 he => ?_⟩
    walk_at "go"
    refine w_revL (SqL.of he) fun r hr => ?_
    walk_at "go"
    refine w_tupL (SqL.of upd_same) fun t ht => ?_
    refine q _ t ((sm2.trans sm3).trans (Same.new' (same_new hr) ht)) (SqT.of ?_)
    unfold behindA
    rw [upd_same, List.map_reverse]
abbrev s_marks_by : Stmt := topS 7
theorem sc_marks_by : FnScope ["readers", "text", "letters", "forth", "back", "table", "numbers", "rests", "told", "state", "place", "number"] ["readers", "text"] (defScope s_marks_by) := ⟨rfl, rfl, rfl, by decide +kernel, rfl, by decide +kernel, by decide +kernel⟩
theorem ok_marks_by (c_letter_numbers : Cal P w K mg base 2 "letter_numbers" spNumbers) (c_states_along : Cal P w K mg base 1 "states_along" (spAlong K)) (F : At K mg "marks_by" s_marks_by) (b_enumerate : mg "enumerate" = none) : Cal P w K mg base 3 "marks_by" (spMarks K) := by
  refine F.cal sc_marks_by (fun vs H Q E h => ?_) (fun _ _ _ _ _ _ us hl => match us, hl with | [_, _], _ => rfl) (fun f cdv A outer s H vs Q E hr h => ?_)
  · obtain ⟨a, R, text, rfl, _⟩ := h
    rfl
  · obtain ⟨a, R, text, rfl, hR, hg, ht, q⟩ := h
    refine ⟨_, (pss_cons (ps_asg (pv 0) (pg_tup rfl (pgs_cons (pg_name (i := 2) sc_marks_by.nd rfl (.inl rfl)) (pgs_cons (pg_name (i := 3) sc_marks_by.nd rfl (.inl rfl)) (pgs_cons (pg_name (i := 4) sc_marks_by.nd rfl (.inl rfl)) (pgs_cons (pg_name (i := 5) sc_marks_by.nd rfl (.inl rfl)) pgs_nil))))))
      (pss_cons (ps_set (i := 6) sc_marks_by.nd rfl (.inl rfl) (pe_c c_letter_numbers hr (by decide) (by rfl) (pa_cons (pv 2) (pa_cons (pv 1) pa_nil))))
      (pss_cons (ps_set (i := 7) sc_marks_by.nd rfl (.inl rfl) (pe_revL (pe_c c_states_along hr (by decide) (by rfl) (pa_cons (pv 4) (pa_cons (pe_revL (pv 6)) pa_nil)))))
      (pss_cons (ps_set (i := 8) sc_marks_by.nd rfl (.inl rfl) (pe_lst pa_nil))
      (pss_cons (ps_set (i := 9) sc_marks_by.nd rfl (.inl rfl) pe_int)
      (pss_cons (ps_for PassesOwn.never rfl (pi_enum (by rfl) b_enumerate (pa_cons (pv 6) pa_nil)) (pg_tup rfl (pgs_cons (pg_name (i := 10) sc_marks_by.nd rfl (.inl rfl)) (pgs_cons (pg_name (i := 11) sc_marks_by.nd rfl (.inl rfl)) pgs_nil)))
      (pss_cons (ps_expr (pe_bm PySem.F.plainAttrs_list PySem.F.slot_list_append PySem.F.type_list_append mt_append (pv 8) (pa_cons (pe_ix ix_S (pe_ix ix_tup (pe_ix ix_tup (pv 5) (pv 9) (fun _ _ => rfl)) (pv 11) (fun _ _ => rfl)) (pe_ix ix_list (pv 7) (pe_op op_add (pv 10) pe_int) (fun _ _ => rfl)) (fun _ _ => rfl)) pa_nil)))
      (pss_one (ps_set (i := 9) sc_marks_by.nd rfl (.inl rfl) (pe_ix ix_tup (pe_ix ix_tup (pv 3) (pv 9) (fun _ _ => rfl)) (pv 11) (fun _ _ => rfl))))))
      (pss_one (ps_ret (pe_m1 PySem.F.slot_str_join PySem.F.type_str_join mt_join0 (pe_strL [] (by decide +kernel)) (pv 8)))))))))), ?_⟩
    refine st_is (σ' := start _ _) (σ := [some (.ref a), some (vS text), none, none, none, none, none, none, none, none, none, none]) rfl ?_
    try dsimp only [cxOf, Cx.nox, Cx.wish]
    obtain ⟨pf, pb, pt, ha, hf, hb, htb⟩ := hR
    have l1 := hg.l1
    walk_at "go"
    refine ⟨R.letters, text, rfl, hg.nd, by omega, ht, fun H1 d sm1 hd => ?_⟩
    have tx1 := Tx.of_same sm1
    walk_at "go"
    refine w_revL (SqL.of hd) fun u hu => ?_
    have sm2 := sm1.trans (same_new (o := .lst ((nums R.letters text).map vI).reverse) hu)
    have hd2 : upd H1 u (.lst ((nums R.letters text).map vI).reverse) d = some (.lst ((nums R.letters text).map vI)) := get_ne (ne_of_none hd hu) hd
    have hu2 : upd H1 u (.lst ((nums R.letters text).map vI).reverse) u = some (.lst ((nums R.letters text).reverse.map vI)) := by rw [upd_same, List.map_reverse]
    generalize upd H1 u (.lst ((nums R.letters text).map vI).reverse) = H2 at sm2 hu2 hd2 ⊢
    walk_at "go"
    refine ⟨pb, u, _, _, R.back, (nums R.letters text).reverse, rfl, hb.tx (Tx.of_same sm2), hg.br, hu2, fun x hx => nums_lt ht.1 x (List.mem_reverse.mp hx), by rw [List.length_reverse, nums_len]; exact ht.2, fun H3 e sm3 he => ?_⟩
    have hd3 := sm3 _ _ hd2
    have sm23 := sm2.trans sm3
    walk_at "go"
    refine w_revL (SqL.of he) fun r hr => ?_
    have hr4 : upd H3 r (.lst ((walkA R.back (nums R.letters text).reverse).map vI).reverse) r = some (.lst ((behindA R.back (nums R.letters text)).map vI)) := by
      unfold behindA
      rw [upd_same, List.map_reverse]
    have hd4 : upd H3 r (.lst ((walkA R.back (nums R.letters text).reverse).map vI).reverse) d = some (.lst ((nums R.letters text).map vI)) := get_ne (ne_of_none hd3 hr) hd3
    have sm4 : Same H (upd H3 r (.lst ((walkA R.back (nums R.letters text).reverse).map vI).reverse)) := sm23.trans (same_new hr)
    generalize upd H3 r (.lst ((walkA R.back (nums R.letters text).reverse).map vI).reverse) = H4 at sm4 hr4 hd4 ⊢
    clear sm23 sm3 sm2 sm1 tx1 hd3 hd2
    have tx4 := Tx.of_same sm4
    have nl := nums_len R.letters text
    have tz := ht.2
    walk_at "go"
    refine w_new (by simp) fun o ho => ?_
    have hdo : d ≠ o := ne_of_none hd4 ho
    have hro : r ≠ o := ne_of_none hr4 ho
    have ho0 := Same.fresh sm4 ho
    have hd5 : upd H4 o (.lst []) d = some (.lst ((nums R.letters text).map vI)) := get_ne hdo hd4
    have hr5 : upd H4 o (.lst []) r = some (.lst ((behindA R.back (nums R.letters text)).map vI)) := get_ne hro hr4
    walk_at "go"
    refine w_enlQ (SqL.of hd5) (fun i σ H' => ∃ v10 v11, σ = [some (.ref a), some (vS text), some (vS R.letters), some (.ref pf), some (.ref pb), some (.ref pt), some (.ref d), some (.ref r), some (.ref o), some (vI (stA R.forth (nums R.letters text) i)), v10, v11] ∧
        H' o = some (.lst (((List.range i).map fun j => [markAt R (nums R.letters text) j]).map vS)) ∧ H' d = some (.lst ((nums R.letters text).map vI)) ∧ H' r = some (.lst ((behindA R.back (nums R.letters text)).map vI)) ∧ Same H H')
      ⟨_, _, rfl, upd_same, hd5, hr5, Same.new' sm4 ho⟩ (fun i σ H' _ ⟨_, _, _, _, h, _⟩ => SqL.of h) ?_ ?_
    · rintro i x T σ H' hx0 ⟨v10, v11, rfl, h1, h2, h3, sm⟩ hT
      obtain ⟨x, hx, rfl⟩ := map_at hx0
      have hin := (List.getElem?_eq_some_iff.mp hx).1
      have hxk := nums_lt ht.1 x (List.mem_of_getElem? hx)
      have h1' : upd H' T (.tup [vI i, vI x]) o = some (.lst (((List.range i).map fun j => [markAt R (nums R.letters text) j]).map vS)) := get_ne (ne_of_none h1 hT) h1
      have h2' : upd H' T (.tup [vI i, vI x]) d = some (.lst ((nums R.letters text).map vI)) := get_ne (ne_of_none h2 hT) h2
      have h3' : upd H' T (.tup [vI i, vI x]) r = some (.lst ((behindA R.back (nums R.letters text)).map vI)) := get_ne (ne_of_none h3 hT) h3
      have sm' : Same H (upd H' T (.tup [vI i, vI x])) := Same.new' sm hT
      have tx' := Tx.of_same sm'
      obtain ⟨xf, hf1, hf2, hf3⟩ := hf.tx tx'
      obtain ⟨xt, ht1, ht2, ht3⟩ := htb.tx tx'
      have hs := hg.fr.st (nums R.letters text) i
      obtain ⟨fr, hfr⟩ : ∃ fr, R.forth[stA R.forth (nums R.letters text) i]? = some fr := ⟨_, List.getElem?_eq_getElem hs⟩
      obtain ⟨tr, htr⟩ : ∃ tr, R.table[stA R.forth (nums R.letters text) i]? = some tr := ⟨_, List.getElem?_eq_getElem (by rw [hg.tl]; exact hs)⟩
      obtain ⟨p1, hp1, hp2⟩ := hf3 _ _ hfr
      obtain ⟨p3, hp3, hp4⟩ := ht3 _ _ htr
      have hfl := (hg.fr.row fr (List.mem_of_getElem? hfr)).1
      obtain ⟨htl, hts⟩ := hg.tr tr (List.mem_of_getElem? htr)
      obtain ⟨z, hz⟩ : ∃ z, tr[x]? = some z := ⟨_, List.getElem?_eq_getElem (by omega)⟩
      have hzl := hts z (List.mem_of_getElem? hz)
      have hfx := getD_at (xs := fr) (i := x) (d := 0) (by omega)
      have hbs := hg.br.st (nums R.letters text).reverse ((nums R.letters text).length - (i + 1))
      have hbh := behind_at (moves := R.back) (ns := nums R.letters text) (i := i + 1) hin
      have hzc := getD_at (xs := z) (i := stA R.back (nums R.letters text).reverse ((nums R.letters text).length - (i + 1))) (d := 0) (by omega)
      have em : markAt R (nums R.letters text) i = z.getD (stA R.back (nums R.letters text).reverse ((nums R.letters text).length - (i + 1))) 0 := by
        unfold markAt
        rw [getD_of htr, getD_of hx, getD_of hz]
      have es : stA R.forth (nums R.letters text) (i + 1) = fr.getD x 0 := by
        show (R.forth.getD _ []).getD _ 0 = _
        rw [getD_of hfr, getD_of hx]
      have b1 := hg.b1
      have hll : (((List.range i).map fun j => [markAt R (nums R.letters text) j]).map vS).length < 16777216 := by rw [List.length_map, List.length_map, List.length_range]; omega
      walk_at "go"
      refine w_ixT hp4 (atI_nat (at_map hz)) ?_
      walk_at "go"
      rw [show (i : Int) + 1 = ((i + 1 : Nat) : Int) from rfl]
      refine w_ixL (SqL.of h3') (atI_nat (at_map hbh)) ?_
      walk_at "go"
      refine w_ixT (Tx.sqT (Tx.lst (Tx.refl _) h1') hp2) (atI_nat (at_map hfx)) ?_
      walk_at "go"
      refine ⟨some (vI i), some (vI x), ?_, ?_, get_ne hdo h2', get_ne hro h3', Same.mut sm' ho0⟩
      · rw [es]
        rfl
      · rw [upd_same, List.range_succ, List.map_append, List.map_append, ← em]
        rfl
    · rintro σ H' ⟨v10, v11, rfl, h1, h2, h3, sm⟩
      rw [List.length_map, nl] at h1
      have ef : ((List.range text.length).map fun j => [markAt R (nums R.letters text) j]).flatten = marksOf R text := by
        unfold marksOf
        rw [show ((List.range text.length).map fun j => [markAt R (nums R.letters text) j]) = ((List.range text.length).map (markAt R (nums R.letters text))).map (fun c => [c]) by rw [List.map_map]; rfl, flat_sing]
      walk_at "go"
      refine w_join0 (SqL.of h1) (by rw [ef]; unfold marksOf; rw [List.length_map, List.length_range]; omega) ?_
      rw [ef]
      exact q _ sm
abbrev s__law_pool : Stmt := topS 9
theorem sc__law_pool : FnScope ["script", "great", "mixed", "cell", "size"] ["script"] (defScope s__law_pool) := ⟨rfl, rfl, rfl, by decide +kernel, rfl, by decide +kernel, by decide +kernel⟩
theorem ok__law_pool (F : At K mg "_law_pool" s__law_pool) (b_len : mg "len" = none) (b_abs : mg "abs" = none) (b_int : mg "int" = none) : Cal P w K mg base 1 "_law_pool" (spPool K) := by
  refine F.cal sc__law_pool (fun vs H Q E h => ?_) (fun _ _ _ _ _ _ us hl => match us, hl with | [_], _ => rfl) (fun f cdv A outer s H vs Q E hr h => ?_)
  · obtain ⟨p, g, rfl, _⟩ := h
    rfl
  · obtain ⟨a, ns, rfl, hS, hz, q⟩ := h
    refine ⟨_, (pss_cons (ps_set (i := 1) sc__law_pool.nd rfl (.inl rfl) (pe_lst pa_nil))
      (pss_cons (ps_set (i := 2) sc__law_pool.nd rfl (.inl rfl) (pe_op op_add pe_int (pe_callB call_lenQ (by rfl) b_len PySem.boot_len (pa_cons (pv 0) pa_nil))))
      (pss_cons (ps_for PassesOwn.never rfl (pi_list (pv 0)) (pg_name (i := 3) sc__law_pool.nd rfl (.inl rfl))
      (pss_cons (ps_set (i := 4) sc__law_pool.nd rfl (.inl rfl) (pe_callB call_absI (by rfl) b_abs (by decide +kernel) (pa_cons (pv 3) pa_nil)))
      (pss_cons (ps_if (pt_cmpR op_ge (pv 4) (pe_op op_pow pe_int pe_int) (nomark _)) (pss_one (ps_expr (pe_bm PySem.F.plainAttrs_list PySem.F.slot_list_append PySem.F.type_list_append mt_append (pv 1) (pa_cons (pv 4) pa_nil)))) pss_nil)
      (pss_one (ps_set (i := 2) sc__law_pool.nd rfl (.inl rfl) (pe_op op_mod (pe_op op_add (pe_op op_add (pe_op op_add (pe_op op_mul (pe_callTy call_intI (by rfl) b_int (by decide +kernel) (pa_cons (pv 2) pa_nil)) pe_int) (pe_op op_mod (pe_callTy call_intI (by rfl) b_int (by decide +kernel) (pa_cons (pv 4) pa_nil)) pe_int)) (pe_op op_mul pe_int (pe_callTy call_intB (by rfl) b_int (by decide +kernel) (pa_cons (pe_cmpR op_lt (pv 3) pe_int (nomark _)) pa_nil)))) pe_int) pe_int))))))
      (pss_one (ps_ret (pe_lst (pa_cons (pv 1) (pa_cons pe_int (pa_cons (pv 2) pa_nil))))))))), ?_⟩
    refine st_is (σ' := start _ _) (σ := [some (.ref a), none, none, none, none]) rfl ?_
    try dsimp only [cxOf, Cx.nox, Cx.wish]
    walk_at "go"
    refine w_new (by simp) fun g hg => ?_
    have hS2 : SqL K (upd H g (.lst [])) a (ns.map V.int) := sqL_same (same_new hg) hS
    walk_at "go"
    refine w_lstQ hS2 (fun i σ H' => ∃ mx v3 v4, ∃ gs : List Int, σ = [some (.ref a), some (.ref g), some (.int mx), v3, v4] ∧ gs.length ≤ i ∧ H' g = some (.lst (gs.map V.int)) ∧ Same H H' ∧ SqL K H' a (ns.map V.int))
      ⟨_, _, _, [], rfl, Nat.le_refl _, upd_same, same_new hg, hS2⟩ (fun i σ H' _ ⟨_, _, _, _, _, _, _, _, h⟩ => h) ?_ ?_
    · rintro i x σ H' hx ⟨mx, v3, v4, gs, rfl, hgl, hg1, sm, hS3⟩
      obtain ⟨n, hn, rfl⟩ := map_at hx
      have hil := (List.getElem?_eq_some_iff.mp hn).1
      have hll : (gs.map V.int).length < 16777216 := by rw [List.length_map]; omega
      walk_at "go"
      refine ite2 (fun e => ?_) (fun e => ?_)
      · walk_at "go"
        exact ⟨_, _, _, gs ++ [(n.natAbs : Int)], rfl, by rw [List.length_append, List.length_singleton]; omega, by rw [upd_same, List.map_append]; rfl, Same.mut sm hg, sqL_same (Same.mut sm hg) hS⟩
      · walk_at "go"
        exact ⟨_, _, _, gs, rfl, by omega, hg1, sm, hS3⟩
    · rintro σ H' ⟨mx, v3, v4, gs, rfl, hgl, hg1, sm, hS3⟩
      rw [List.length_map] at hgl
      walk_at "go"
      refine w_new (by simp) fun p hp => ?_
      exact q _ p g (Same.fresh sm hp) hg ⟨(ne_of_none hg1 hp).symm, _, 0, gs, upd_same, get_ne (ne_of_none hg1 hp) hg1, by omega⟩ (Same.new' sm hp)
abbrev s__law_draw : Stmt := topS 10
theorem sc__law_draw : FnScope ["pool", "many", "great", "size", "mixed"] ["pool", "many"] (defScope s__law_draw) := ⟨rfl, rfl, rfl, by decide +kernel, rfl, by decide +kernel, by decide +kernel⟩
theorem ok__law_draw (F : At K mg "_law_draw" s__law_draw) (b_len : mg "len" = none) (b_int : mg "int" = none) : Cal P w K mg base 1 "_law_draw" spDraw := by
  refine F.cal sc__law_draw (fun vs H Q E h => ?_) (fun _ _ _ _ _ _ us hl => match us, hl with | [_, _], _ => rfl) (fun f cdv A outer s H vs Q E hr h => ?_)
  · obtain ⟨p, g, m, rfl, _⟩ := h
    rfl
  · obtain ⟨p, g, m, rfl, hP, m0, m1, q⟩ := h
    refine ⟨_, (pss_cons (ps_if (pt_cmpR op_lt (pv 1) pe_int (nomark _)) (pss_one (ps_ret pe_int)) pss_nil)
      (pss_cons (ps_set (i := 2) sc__law_draw.nd rfl (.inl rfl) (pe_ix ix_list (pv 0) pe_int (fun _ _ => rfl)))
      (pss_cons (ps_if (pt_cmpR op_lt (pe_ix ix_list (pv 0) pe_int (fun _ _ => rfl)) (pe_callB call_lenQ (by rfl) b_len PySem.boot_len (pa_cons (pv 2) pa_nil)) (nomark _)) (pss_cons (ps_set (i := 3) sc__law_draw.nd rfl (.inl rfl) (pe_callTy call_intI (by rfl) b_int (by decide +kernel) (pa_cons (pe_ix ix_list (pv 2) (pe_ix ix_list (pv 0) pe_int (fun _ _ => rfl)) (fun _ _ => rfl)) pa_nil)))
      (pss_cons (ps_asg (pe_op op_fdiv (pv 3) (pv 1)) (pg_sub (pv 2) (pe_ix ix_list (pv 0) pe_int (fun _ _ => rfl)) set_list))
      (pss_cons (ps_if (pt_cmpR op_lt (pv 3) (pv 1) (nomark _)) (pss_one (ps_asg (pe_op op_add (pe_ix ix_list (pv 0) pe_int (fun _ _ => rfl)) pe_int) (pg_sub (pv 0) pe_int set_list))) pss_nil)
      (pss_one (ps_ret (pe_op op_mod (pe_callTy call_intI (by rfl) b_int (by decide +kernel) (pa_cons (pv 3) pa_nil)) (pv 1))))))) pss_nil)
      (pss_cons (ps_set (i := 4) sc__law_draw.nd rfl (.inl rfl) (pe_op op_mod (pe_op op_add (pe_op op_mul (pe_callTy call_intI (by rfl) b_int (by decide +kernel) (pa_cons (pe_ix ix_list (pv 0) pe_int (fun _ _ => rfl)) pa_nil)) pe_int) pe_int) pe_int))
      (pss_cons (ps_asg (pv 4) (pg_sub (pv 0) pe_int set_list))
      (pss_one (ps_ret (pe_op op_mod (pe_op op_fdiv (pe_op op_mod (pe_callTy call_intI (by rfl) b_int (by decide +kernel) (pa_cons (pe_op op_add (pe_op op_mul (pv 4) pe_int) (pe_op op_fdiv (pv 4) pe_int)) pa_nil)) pe_int) pe_int) (pv 1))))))))), ?_⟩
    obtain ⟨ne, x, k, ns, hp, hg, hn⟩ := hP
    refine st_is (σ' := start _ _) (σ := [some (.ref p), some (.int m), none, none, none]) rfl ?_
    try dsimp only [cxOf, Cx.nox, Cx.wish]
    have fin : ∀ (H' : Hp) (y : Int), Pool2 p g H' → Kp p g H H' → Q (.int (y % m)) H' := by
      intro H' y hP' kp'
      have e1 := Int.emod_nonneg y (show m ≠ 0 by omega)
      have e2 := Int.emod_lt_of_pos y (show 0 < m by omega)
      obtain ⟨r, hr⟩ := Int.eq_ofNat_of_zero_le e1
      rw [hr]
      exact q H' r (by omega) hP' kp'
    walk_at "go"
    by_cases hm : m < 2
    · rw [decide_eq_true hm]
      walk_at "go"
      exact q H 0 (by omega) ⟨ne, x, k, ns, hp, hg, hn⟩ (Kp.refl _ _ _)
    · rw [decide_eq_false hm]
      walk_at "go"
      rw [List.length_map]
      by_cases hk : k < ns.length
      · rw [decide_eq_true (by omega)]
        walk_at "go"
        obtain ⟨y, hy⟩ : ∃ y, ns[k]? = some y := ⟨_, List.getElem?_eq_getElem hk⟩
        refine w_ixL (SqL.of hg) (atI_nat (at_map hy)) ?_
        walk_at "go"
        refine w_setL (j := k) hg (ixN_n (by rw [List.length_map]; exact hk)) ?_
        rw [← List.map_set]
        walk_at "go"
        have hp2 : upd H g (.lst ((ns.set k (y / m)).map V.int)) p = some (.lst [.ref g, .int (k : Int), .int x]) := get_ne ne hp
        refine ite2 (fun e => ?_) (fun e => ?_)
        · walk_at "go"
          refine fin _ _ ⟨ne, x, k + 1, ns.set k (y / m), upd_same, get_ne ne.symm upd_same, by rw [List.length_set]; exact hn⟩ fun b o h1 h2 h3 => get_ne h1 (get_ne h2 h3)
        · walk_at "go"
          refine fin _ _ ⟨ne, x, k, ns.set k (y / m), hp2, upd_same, by rw [List.length_set]; exact hn⟩ fun b o h1 h2 h3 => get_ne h2 h3
      · rw [decide_eq_false (by omega)]
        walk_at "go"
        refine fin _ _ ⟨ne, _, k, ns, upd_same, get_ne ne.symm hg, hn⟩ fun b o h1 h2 h3 => get_ne h1 h3
abbrev s__law_letters : Stmt := topS 11
theorem sc__law_letters : FnScope ["pool", "many", "left", "picked", "lap"] ["pool", "many"] (defScope s__law_letters) := ⟨rfl, rfl, rfl, by decide +kernel, rfl, by decide +kernel, by decide +kernel⟩
abbrev alphaP : List Nat := [97, 98, 99, 100, 101, 102, 103, 104, 105, 106, 107, 108, 109, 110, 111, 112, 113, 114, 115, 116, 117, 118, 119, 120, 121, 122, 65, 66, 67, 68, 69, 70, 71, 72, 73, 74, 75, 76, 77, 78, 79, 80, 81, 82, 83, 84, 85, 86, 87, 88, 89, 90]
theorem alphaPU : ∀ x ∈ alphaP, x ∈ alphaU := by decide
theorem ok__law_letters (c__law_draw : Cal P w K mg base 1 "_law_draw" spDraw) (F : At K mg "_law_letters" s__law_letters) (b_list : mg "list" = none) (b_len : mg "len" = none) (b_range : mg "range" = none) (b_sorted : mg "sorted" = none) : Cal P w K mg base 2 "_law_letters" spLetters := by
  refine F.cal sc__law_letters (fun vs H Q E h => ?_) (fun _ _ _ _ _ _ us hl => match us, hl with | [_, _], _ => rfl) (fun f cdv A outer s H vs Q E hr h => ?_)
  · obtain ⟨p, g, m, rfl, _⟩ := h
    rfl
  · obtain ⟨p, g, m, rfl, hP, m0, m1, q⟩ := h
    refine ⟨_, (pss_cons (ps_set (i := 2) sc__law_letters.nd rfl (.inl rfl) (pe_callTy (call_listS rfl) (by rfl) b_list (by decide +kernel) (pa_cons (pe_strL [97, 98, 99, 100, 101, 102, 103, 104, 105, 106, 107, 108, 109, 110, 111, 112, 113, 114, 115, 116, 117, 118, 119, 120, 121, 122, 65, 66, 67, 68, 69, 70, 71, 72, 73, 74, 75, 76, 77, 78, 79, 80, 81, 82, 83, 84, 85, 86, 87, 88, 89, 90] (by decide +kernel)) pa_nil)))
      (pss_cons (ps_set (i := 3) sc__law_letters.nd rfl (.inl rfl) (pe_lst pa_nil))
      (pss_cons (ps_for PassesOwn.never rfl (pi_range1 (by rfl) b_range (pa_cons (pv 1) pa_nil)) (pg_name (i := 4) sc__law_letters.nd rfl (.inl rfl))
      (pss_one (ps_expr (pe_bm PySem.F.plainAttrs_list PySem.F.slot_list_append PySem.F.type_list_append mt_append (pv 3) (pa_cons (pe_bm PySem.F.plainAttrs_list PySem.F.slot_list_pop PySem.F.type_list_pop mt_popAt (pv 2) (pa_cons (pe_c c__law_draw hr (by decide) (by rfl) (pa_cons (pv 0) (pa_cons (pe_callB call_lenQ (by rfl) b_len PySem.boot_len (pa_cons (pv 2) pa_nil)) pa_nil))) pa_nil)) pa_nil)))))
      (pss_one (ps_ret (pe_m1 PySem.F.slot_str_join PySem.F.type_str_join mt_join0 (pe_strL [] (by decide +kernel)) (pe_callB cr_sortedT (by rfl) b_sorted (by decide +kernel) (pa_cons (pv 3) pa_nil)))))))), ?_⟩
    refine st_is (σ' := start _ _) (σ := [some (.ref p), some (vI m), none, none, none]) rfl ?_
    try dsimp only [cxOf, Cx.nox, Cx.wish]
    walk_at "go"
    refine w_listS (by simp) fun c hc => ?_
    walk_at "go"
    refine w_new (by simp) fun d hd => ?_
    have hcd : c ≠ d := ne_of_none upd_same hd
    have hP2 := (hP.new (o := .lst (alphaP.map fun c => vS [c])) hc).new (o := .lst []) hd
    have kp2 : Kp p g H (upd (upd H c (.lst (alphaP.map fun c => vS [c]))) d (.lst [])) := Kp.of_same (Same.new' (same_new hc) hd)
    have hcp := hP.ne1 hc
    have hcg := hP.ne2 hc
    have hd0 := (none_of_upd hd).1
    have hdp := hP.ne1 hd0
    have hdg := hP.ne2 hd0
    have hc2 : upd (upd H c (.lst (alphaP.map fun c => vS [c]))) d (.lst []) c = some (.lst (alphaP.map fun c => vS [c])) := get_ne hcd upd_same
    have hd2 : upd (upd H c (.lst (alphaP.map fun c => vS [c]))) d (.lst []) d = some (.lst []) := upd_same
    change gName 3 (.ref d) _ (upd (upd H c (.lst (alphaP.map fun c => vS [c]))) d (.lst [])) _
    generalize upd (upd H c (.lst (alphaP.map fun c => vS [c]))) d (.lst []) = H2 at hP2 kp2 hc2 hd2 ⊢
    walk_at "go"
    refine w_rng1 (by omega) (by omega) (fun i σ H' => ∃ v, ∃ ls ps : List Nat, σ = [some (.ref p), some (vI m), some (.ref c), some (.ref d), v] ∧ ls.Nodup ∧ ps.Nodup ∧ ls.length + i = 52 ∧ ps.length = i ∧ (∀ x ∈ ls, x ∈ alphaU ∧ x ∉ ps) ∧ (∀ x ∈ ps, x ∈ alphaU) ∧
        H' c = some (.lst (ls.map fun c => vS [c])) ∧ H' d = some (.lst (ps.map fun c => vS [c])) ∧ Pool2 p g H' ∧ Kp p g H H')
      ⟨_, alphaP, [], rfl, by decide, List.nodup_nil, rfl, rfl, fun x hx => ⟨alphaPU x hx, List.not_mem_nil⟩, (fun x hx => nomatch hx), hc2, hd2, hP2, kp2⟩ ?_ ?_
    · rintro i σ H' hi ⟨v, ls, ps, rfl, n1, n2, l1, l2, hl, hp, h1, h2, hP', kp'⟩
      walk_at "go"
      rw [List.length_map]
      refine ⟨p, g, _, rfl, hP', by omega, by omega, fun H3 r hr hP3 kp3 => ?_⟩
      have h13 := kp3 _ _ hcp hcg h1
      have h23 := kp3 _ _ hdp hdg h2
      obtain ⟨x, hx⟩ : ∃ x, ls[r]? = some x := ⟨_, List.getElem?_eq_getElem (by omega)⟩
      obtain ⟨f1, f2, f3, f4⟩ := erase_facts n1 hx
      walk_at "go"
      refine w_popAt h13 (by rw [List.length_map]; omega) (at_map hx) ?_
      have em : (ls.map fun c => vS [c]).eraseIdx r = (ls.eraseIdx r).map fun c => vS [c] := by rw [List.eraseIdx_eq_take_drop_succ, List.eraseIdx_eq_take_drop_succ, List.map_append, List.map_take, List.map_drop]
      rw [em]
      have h24 := get_ne (o := HO.lst ((ls.eraseIdx r).map fun c => vS [c])) hcd.symm h23
      walk_at "go"
      have hxu := hl x (List.mem_of_getElem? hx)
      refine ⟨_, ls.eraseIdx r, ps ++ [x], rfl, f1, ?_, by omega, by rw [List.length_append, l2]; rfl, fun y hy => ⟨(hl y (f3 y hy)).1, fun hm => ?_⟩, fun y hy => ?_, get_ne hcd upd_same, ?_, (hP3.lst hcp hcg).lst hdp hdg, fun b o k1 k2 e => ?_⟩
      · rw [List.nodup_append]
        refine ⟨n2, by simp, fun a ha b hb e => ?_⟩
        rw [List.mem_singleton.mp hb] at e
        exact hxu.2 (e ▸ ha)
      · rcases List.mem_append.mp hm with hm | hm
        · exact (hl y (f3 y hy)).2 hm
        · rw [List.mem_singleton.mp hm] at hy
          exact f2 hy
      · rcases List.mem_append.mp hy with hy | hy
        · exact hp y hy
        · rw [List.mem_singleton.mp hy]
          exact hxu.1
      · rw [upd_same, List.map_append]
        rfl
      · exact get_ne (ne_of_none e hd0) (get_ne (ne_of_none e hc) (kp3 b o k1 k2 (kp' b o k1 k2 e)))
    · rintro σ H' ⟨v, ls, ps, rfl, n1, n2, l1, l2, hl, hp, h1, h2, hP', kp'⟩
      rw [Int.toNat_natCast] at l1 l2
      walk_at "go"
      have h2' : H' d = some (.lst ((ps.map fun c => [c]).map vS)) := by rw [h2, List.map_map]; rfl
      refine w_sortedT (SqL.of h2') (by rw [List.length_map]; omega) fun ys t hperm hsorted ht => ?_
      have hfp := sorted_letters hperm
      have hfl := hfp.length_eq
      walk_at "go"
      refine w_join0 (SqL.of upd_same) (by omega) ?_
      exact q _ _ (by omega) (hfp.nodup_iff.mpr n2) (fun x hx => hp x (hfp.mem_iff.mp hx)) (hP'.new ht) (kp'.trans (Kp.of_same (same_new ht)))
abbrev s__law_moves : Stmt := topS 12
theorem sc__law_moves : FnScope ["pool", "letters", "many", "rows", "state", "sign"] ["pool", "letters", "many"] (defScope s__law_moves) := ⟨rfl, rfl, rfl, by decide +kernel, rfl, by decide +kernel, by decide +kernel⟩
theorem ok__law_moves (c__law_draw : Cal P w K mg base 1 "_law_draw" spDraw) (F : At K mg "_law_moves" s__law_moves) (b_range : mg "range" = none) (b_tuple : mg "tuple" = none) : Cal P w K mg base 2 "_law_moves" (spMoves K) := by
  refine F.cal sc__law_moves (fun vs H Q E h => ?_) (fun _ _ _ _ _ _ us hl => match us, hl with | [_, _, _], _ => rfl) (fun f cdv A outer s H vs Q E hr h => ?_)
  · obtain ⟨p, g, l, m, rfl, _⟩ := h
    rfl
  · obtain ⟨p, g, l, m, rfl, hP, l6, m0, m1, q⟩ := h
    refine ⟨_, (pss_cons (ps_set (i := 3) sc__law_moves.nd rfl (.inl rfl) (pe_lst pa_nil))
      (pss_cons (ps_for PassesOwn.never rfl (pi_range1 (by rfl) b_range (pa_cons (pv 2) pa_nil)) (pg_name (i := 4) sc__law_moves.nd rfl (.inl rfl))
      (pss_one (ps_expr (pe_bm PySem.F.plainAttrs_list PySem.F.slot_list_append PySem.F.type_list_append mt_append (pv 3) (pa_cons (pe_callTy call_tupL (by rfl) b_tuple (by decide +kernel) (pa_cons (pe_lc (own := [("sign", 5)]) (g := gName 5) (tt := tYes)  rfl sc__law_moves.nd (pi_str (pv 1)) (blkOk_by (N := ["pool", "letters", "many", "rows", "state", "sign"]) (sc := defScope s__law_moves) (by decide +kernel)) (fun _ _ _ _ _ => (pg_name (i := 5) sc__law_moves.nd rfl (.inl rfl))) (fun _ _ _ _ _ => pts_nil) (fun _ _ _ _ _ => (pe_c c__law_draw hr (by decide) (by rfl) (pa_cons (pv 0) (pa_cons (pv 2) pa_nil))))) pa_nil)) pa_nil)))))
      (pss_one (ps_ret (pe_callTy call_tupL (by rfl) b_tuple (by decide +kernel) (pa_cons (pv 3) pa_nil)))))), ?_⟩
    refine st_is (σ' := start _ _) (σ := [some (.ref p), some (vS l), some (vI m), none, none, none]) rfl ?_
    try dsimp only [cxOf, Cx.nox, Cx.wish]
    walk_at "go"
    refine w_new (by simp) fun c hc => ?_
    have hcp := hP.ne1 hc
    have hcg := hP.ne2 hc
    walk_at "go"
    refine w_rng1 (by omega) (by omega) (fun i σ H' => ∃ v4, ∃ (xs : List V) (rows : List (List Nat)), σ = [some (.ref p), some (vS l), some (vI m), some (.ref c), v4, none] ∧ rows.length = i ∧ Rows K H' vI xs rows ∧ (∀ r ∈ rows, r.length = l.length ∧ ∀ x ∈ r, x < m) ∧ H' c = some (.lst xs) ∧ Pool2 p g H' ∧ Kp p g H H')
      ⟨_, [], [], rfl, rfl, Rows.nil, (fun r hr => nomatch hr), upd_same, hP.new hc, Kp.of_same (same_new hc)⟩ ?_ ?_
    · rintro i σ H1 hi ⟨v4, xs, rows, rfl, hrl, hR, hgood, hcx, hP1, kp1⟩
      have hxl := hR.1
      walk_at "go"
      refine w_lcSQ (fun Dl j H' => ∃ es : List Nat, es.length = j ∧ (∀ x ∈ es, x < m) ∧ H' Dl = some (.lst (es.map vI)) ∧ Pool2 p g H' ∧ Kp p g H1 H') (fun Dl hD => ⟨[], rfl, (fun x hx => nomatch hx), upd_same, hP1.new hD, Kp.of_same (same_new hD)⟩) ?_ ?_
      · rintro Dl j ch H' hD hj ⟨es, hel, hlt, h1, hP', kp'⟩
        have hjl := (List.getElem?_eq_some_iff.mp hj).1
        have hDp := hP1.ne1 hD
        have hDg := hP1.ne2 hD
        walk_at "go"
        refine ⟨rfl, ?_⟩
        walk_at "go"
        refine ⟨p, g, _, rfl, hP', by omega, by omega, fun H2 r hr hP2 kp2 => ?_⟩
        refine w_acc (kp2 _ _ hDp hDg h1) (by rw [List.length_map]; omega) ⟨es ++ [r], by rw [List.length_append, hel]; rfl, fun x hx => ?_, ?_, hP2.lst hDp hDg, Kp.mut (kp'.trans kp2) hD⟩
        · rcases List.mem_append.mp hx with hx | hx
          · exact hlt x hx
          · rw [List.mem_singleton.mp hx]
            omega
        · rw [upd_same, List.map_append]
          rfl
      rintro Dl H2 hD ⟨es, hel, hlt, h1, hP2, kp2⟩
      have hcx2 := kp2 _ _ hcp hcg hcx
      walk_at "go"
      refine w_tupL (SqL.of h1) fun t ht => ?_
      have hcx3 : upd H2 t (.tup (es.map vI)) c = some (.lst xs) := get_ne (ne_of_none hcx2 ht) hcx2
      have hll : xs.length < 16777216 := by omega
      walk_at "go"
      have tx : Tx H1 (upd (upd H2 t (.tup (es.map vI))) c (.lst (xs ++ [.ref t]))) := Tx.lst (Tx.new (kp2.tx2 hP1) ht) hcx3
      refine ⟨_, xs ++ [.ref t], rows ++ [es], rfl, by rw [List.length_append, hrl]; rfl, (hR.tx tx).snoc (SqT.of (get_ne (ne_of_none hcx2 ht).symm upd_same)), fun r hr => ?_, upd_same, (hP2.new ht).lst hcp hcg, Kp.mut (Kp.new (kp1.trans kp2) ht) hc⟩
      rcases List.mem_append.mp hr with hr | hr
      · exact hgood r hr
      · rw [List.mem_singleton.mp hr]
        exact ⟨hel, hlt⟩
    · rintro σ H1 ⟨v4, xs, rows, rfl, hrl, hR, hgood, hcx, hP1, kp1⟩
      rw [Int.toNat_natCast] at hrl
      walk_at "go"
      refine w_tupL (SqL.of hcx) fun t ht => ?_
      exact q _ rows t ⟨by omega, hrl, hgood⟩ ((hR.tx (Tx.new (Tx.refl _) ht)).tab (SqT.of upd_same)) (hP1.new ht) (Kp.new kp1 ht)
abbrev s__law_readers : Stmt := topS 13
theorem sc__law_readers : FnScope ["pool", "letters", "forth", "back", "names", "table", "state", "row", "sign", "other"] ["pool"] (defScope s__law_readers) := ⟨rfl, rfl, rfl, by decide +kernel, rfl, by decide +kernel, by decide +kernel⟩
theorem ok__law_readers (c__law_letters : Cal P w K mg base 2 "_law_letters" spLetters) (c__law_draw : Cal P w K mg base 1 "_law_draw" spDraw) (c__law_moves : Cal P w K mg base 2 "_law_moves" (spMoves K)) (F : At K mg "_law_readers" s__law_readers) (b_len : mg "len" = none) (b_range : mg "range" = none) (b_tuple : mg "tuple" = none) : Cal P w K mg base 3 "_law_readers" (spReaders K) := by
  refine F.cal sc__law_readers (fun vs H Q E h => ?_) (fun _ _ _ _ _ _ us hl => match us, hl with | [_], _ => rfl) (fun f cdv A outer s H vs Q E hr h => ?_)
  · obtain ⟨p, g, rfl, _⟩ := h
    rfl
  · obtain ⟨p, g, rfl, hP, q⟩ := h
    refine ⟨_, (pss_cons (ps_set (i := 1) sc__law_readers.nd rfl (.inl rfl) (pe_c c__law_letters hr (by decide) (by rfl) (pa_cons (pv 0) (pa_cons (pe_op op_add pe_int (pe_ix ix_list (pe_lst (pa_cons pe_int (pa_cons pe_int (pa_cons pe_int (pa_cons pe_int (pa_cons pe_int (pa_cons pe_int pa_nil))))))) (pe_c c__law_draw hr (by decide) (by rfl) (pa_cons (pv 0) (pa_cons pe_int pa_nil))) (fun _ _ => rfl))) pa_nil))))
      (pss_cons (ps_set (i := 2) sc__law_readers.nd rfl (.inl rfl) (pe_c c__law_moves hr (by decide) (by rfl) (pa_cons (pv 0) (pa_cons (pv 1) (pa_cons (pe_op op_add pe_int (pe_c c__law_draw hr (by decide) (by rfl) (pa_cons (pv 0) (pa_cons pe_int pa_nil)))) pa_nil)))))
      (pss_cons (ps_set (i := 3) sc__law_readers.nd rfl (.inl rfl) (pe_c c__law_moves hr (by decide) (by rfl) (pa_cons (pv 0) (pa_cons (pv 1) (pa_cons (pe_op op_add pe_int (pe_c c__law_draw hr (by decide) (by rfl) (pa_cons (pv 0) (pa_cons pe_int pa_nil)))) pa_nil)))))
      (pss_cons (ps_set (i := 4) sc__law_readers.nd rfl (.inr rfl) (pe_op op_addS (pe_strL [46] (by decide +kernel)) (pe_m0 PySem.F.slot_str_upper PySem.F.type_str_upper mt_upperA (pe_c c__law_letters hr (by decide) (by rfl) (pa_cons (pv 0) (pa_cons pe_int pa_nil))))))
      (pss_cons (ps_set (i := 5) sc__law_readers.nd rfl (.inl rfl) (pe_lst pa_nil))
      (pss_cons (ps_for PassesOwn.never rfl (pi_range1 (by rfl) b_range (pa_cons (pe_callB call_lenQ (by rfl) b_len PySem.boot_len (pa_cons (pv 2) pa_nil)) pa_nil)) (pg_name (i := 6) sc__law_readers.nd rfl (.inl rfl))
      (pss_cons (ps_set (i := 7) sc__law_readers.nd rfl (.inl rfl) (pe_lst pa_nil))
      (pss_cons (ps_for PassesOwn.never rfl (pi_str (pv 1)) (pg_name (i := 8) sc__law_readers.nd rfl (.inl rfl))
      (pss_one (ps_expr (pe_bm PySem.F.plainAttrs_list PySem.F.slot_list_append PySem.F.type_list_append mt_append (pv 7) (pa_cons (pe_m1 PySem.F.slot_str_join PySem.F.type_str_join mt_join0 (pe_strL [] (by decide +kernel)) (pe_lc (own := [("other", 9)]) (g := gName 9) (tt := tYes)  rfl sc__law_readers.nd (pi_tup (pv 3)) (blkOk_by (N := ["pool", "letters", "forth", "back", "names", "table", "state", "row", "sign", "other"]) (sc := defScope s__law_readers) (by decide +kernel)) (fun _ _ _ _ _ => (pg_name (i := 9) sc__law_readers.nd rfl (.inl rfl))) (fun _ _ _ _ _ => pts_nil) (fun _ _ _ _ _ => (pe_ix ix_S (pv 4) (pe_c c__law_draw hr (by decide) (by rfl) (pa_cons (pv 0) (pa_cons pe_int pa_nil))) (fun _ _ => rfl))))) pa_nil)))))
      (pss_one (ps_expr (pe_bm PySem.F.plainAttrs_list PySem.F.slot_list_append PySem.F.type_list_append mt_append (pv 5) (pa_cons (pe_callTy call_tupL (by rfl) b_tuple (by decide +kernel) (pa_cons (pv 7) pa_nil)) pa_nil)))))))
      (pss_one (ps_ret (pe_tup (pa_cons (pv 1) (pa_cons (pv 2) (pa_cons (pv 3) (pa_cons (pe_callTy call_tupL (by rfl) b_tuple (by decide +kernel) (pa_cons (pv 5) pa_nil)) pa_nil))))))))))))), ?_⟩
    refine st_is (σ' := start _ _) (σ := [some (.ref p), none, none, none, none, none, none, none, none, none]) rfl ?_
    try dsimp only [cxOf, Cx.nox, Cx.wish]
    walk_at "go"
    refine w_new (by simp) fun z hz => ?_
    have hz1 : upd H z (.lst [V.int 1, V.int 0, V.int 1, V.int 2, V.int 3, V.int 5]) z = some (.lst [V.int 1, V.int 0, V.int 1, V.int 2, V.int 3, V.int 5]) := upd_same
    have hzp := hP.ne1 hz
    have hzg := hP.ne2 hz
    have hP1 := hP.new (o := .lst [V.int 1, V.int 0, V.int 1, V.int 2, V.int 3, V.int 5]) hz
    have kp1 : Kp p g H (upd H z (.lst [V.int 1, V.int 0, V.int 1, V.int 2, V.int 3, V.int 5])) := Kp.of_same (same_new hz)
    generalize upd H z (.lst [V.int 1, V.int 0, V.int 1, V.int 2, V.int 3, V.int 5]) = H1 at hz1 hP1 kp1 ⊢
    walk_at "go"
    refine ⟨p, g, 6, rfl, hP1, by omega, by omega, fun H2 r hr hP2 kp2 => ?_⟩
    have hz2 := kp2 _ _ hzp hzg hz1
    obtain ⟨n, hn, hat⟩ : ∃ n : Nat, n ≤ 5 ∧ atI [V.int 1, V.int 0, V.int 1, V.int 2, V.int 3, V.int 5] (r : Int) = some (vI n) := by
      match r with
      | 0 => exact ⟨1, by omega, rfl⟩
      | 1 => exact ⟨0, by omega, rfl⟩
      | 2 => exact ⟨1, by omega, rfl⟩
      | 3 => exact ⟨2, by omega, rfl⟩
      | 4 => exact ⟨3, by omega, rfl⟩
      | 5 => exact ⟨5, by omega, rfl⟩
      | r + 6 => omega
    walk_at "go"
    refine w_ixL (SqL.of hz2) hat ?_
    walk_at "go"
    rw [show (1 : Int) + (n : Int) = ((1 + n : Nat) : Int) by omega]
    refine ⟨p, g, 1 + n, rfl, hP2, by omega, by omega, fun H3 l hl lnd lal hP3 kp3 => ?_⟩
    have kp03 := (kp1.trans kp2).trans kp3
    clear hz2 hz1 kp1 kp2 kp3 hP1 hP2
    walk_at "go"
    refine ⟨p, g, 6, rfl, hP3, by omega, by omega, fun H4 rf hrf hP4 kp4 => ?_⟩
    walk_at "go"
    rw [show (1 : Int) + (rf : Int) = ((1 + rf : Nat) : Int) by omega]
    refine ⟨p, g, l, 1 + rf, rfl, hP4, by omega, by omega, by omega, fun H5 forth pf hfm hft hP5 kp5 => ?_⟩
    walk_at "go"
    refine ⟨p, g, 6, rfl, hP5, by omega, by omega, fun H6 rb hrb hP6 kp6 => ?_⟩
    walk_at "go"
    rw [show (1 : Int) + (rb : Int) = ((1 + rb : Nat) : Int) by omega]
    refine ⟨p, g, l, 1 + rb, rfl, hP6, by omega, by omega, by omega, fun H7 back pb hbm hbt hP7 kp7 => ?_⟩
    have hft7 := hft.tx ((kp6.trans kp7).tx2 hP5)
    walk_at "go"
    refine ⟨p, g, 3, rfl, hP7, by omega, by omega, fun H8 nm hnm _ hnal hP8 kp8 => ?_⟩
    have hft8 := hft7.tx (kp8.tx2 hP7)
    have hbt8 := hbt.tx (kp8.tx2 hP7)
    have kp38 := (((kp4.trans kp5).trans kp6).trans kp7).trans kp8
    have kp08 := kp03.trans kp38
    clear hft7 hft hbt kp4 kp5 kp6 kp7 kp8 kp03 kp38 hP3 hP4 hP5 hP6 hP7
    walk_at "go"
    refine w_upper (by omega) hnal fun nu hnu => ?_
    have hn4 : (46 :: nu).length = 4 := by rw [List.length_cons]; omega
    walk_at "go"
    refine w_new (by simp) fun c hc => ?_
    have hcp := hP8.ne1 hc
    have hcg := hP8.ne2 hc
    have hc0 := Kp.fresh kp08 hcp hcg hc
    have hP9 := hP8.new (o := .lst []) hc
    have kp09 : Kp p g H (upd H8 c (.lst [])) := Kp.new kp08 hc
    have tx9 : Tx H8 (upd H8 c (.lst [])) := Tx.new (Tx.refl _) hc
    have hft9 := hft8.tx tx9
    have hbt9 := hbt8.tx tx9
    have hc9 : upd H8 c (.lst []) c = some (.lst []) := upd_same
    generalize upd H8 c (.lst []) = H9 at hP9 kp09 hft9 hbt9 hc9 ⊢
    clear hft8 hbt8 tx9 hP8 kp08
    obtain ⟨xf, hf1, hf2, hf3⟩ := id hft9
    obtain ⟨xb, hb1, hb2, hb3⟩ := id hbt9
    walk_at "go"
    rw [hf2, hfm.len]
    refine w_rng1 (by omega) (by omega) (fun i σ H' => ∃ v6 v7 v8, ∃ (xs : List V) (rows : List (List (List Nat))), σ = [some (.ref p), some (vS l), some (.ref pf), some (.ref pb), some (vS (46 :: nu)), some (.ref c), v6, v7, v8, none] ∧ rows.length = i ∧ Rows K H' vS xs rows ∧
        (∀ r ∈ rows, r.length = l.length ∧ ∀ s ∈ r, s.length = back.length) ∧ H' c = some (.lst xs) ∧ Pool2 p g H' ∧ Kp p g H H' ∧ Tx H9 H')
      ⟨_, _, _, [], [], rfl, rfl, Rows.nil, (fun r hr => nomatch hr), hc9, hP9, kp09, Tx.refl _⟩ ?_ ?_
    · rintro i σ H1 hi ⟨v6, v7, v8, xs, rows, rfl, hrl, hR, hgood, hcx, hP1, kp1, tx1⟩
      have hxl := hR.1
      walk_at "go"
      refine w_new (by simp) fun d hd => ?_
      have hdp := hP1.ne1 hd
      have hdg := hP1.ne2 hd
      have hd0 := Kp.fresh kp1 hdp hdg hd
      have hcd : c ≠ d := ne_of_none hcx hd
      walk_at "go"
      refine w_chrQ (fun j σ H' => ∃ v8, ∃ row : List (List Nat), σ = [some (.ref p), some (vS l), some (.ref pf), some (.ref pb), some (vS (46 :: nu)), some (.ref c), some (vI i), some (.ref d), v8, none] ∧ row.length = j ∧ (∀ s ∈ row, s.length = back.length) ∧
          H' d = some (.lst (row.map vS)) ∧ H' c = some (.lst xs) ∧ Pool2 p g H' ∧ Kp p g H H' ∧ Tx H1 H')
        ⟨_, [], rfl, rfl, (fun x hx => nomatch hx), upd_same, get_ne hcd hcx, hP1.new hd, Kp.new kp1 hd, Tx.new (Tx.refl _) hd⟩ ?_ ?_
      · rintro j ch σ H2 hj ⟨v8, row, rfl, hrw, hrb, hd2, hc2, hP2, kp2, tx2⟩
        have hjl := (List.getElem?_eq_some_iff.mp hj).1
        have txb := tx1.trans tx2
        walk_at "go"
        refine w_lcTQ (txb.sqT hb1) (fun Dl i H' => ∃ cs : List Nat, cs.length = i ∧ H' Dl = some (.lst ((cs.map fun c => [c]).map vS)) ∧ Pool2 p g H' ∧ Kp p g H2 H') (fun Dl hD => ⟨[], rfl, upd_same, hP2.new hD, Kp.of_same (same_new hD)⟩) (fun Dl i H' _ ⟨_, _, _, _, h⟩ => (txb.trans (h.tx2 hP2)).sqT hb1) ?_ ?_
        · rintro Dl k x H' hD hk ⟨cs, hcl, h1, hP', kp'⟩
          have hkl := (List.getElem?_eq_some_iff.mp hk).1
          have hbl := hbm.len
          have hDp := hP2.ne1 hD
          have hDg := hP2.ne2 hD
          walk_at "go"
          refine ⟨rfl, ?_⟩
          walk_at "go"
          refine ⟨p, g, 4, rfl, hP', by omega, by omega, fun H3 r hr hP3 kp3 => ?_⟩
          walk_at "go"
          refine w_ixS (by omega) (atI_nat (getD_at (d := 0) (by omega))) ?_
          exact w_acc (kp3 _ _ hDp hDg h1) (by rw [List.length_map, List.length_map]; omega) ⟨cs ++ [(46 :: nu).getD r 0], by rw [List.length_append, hcl]; rfl, by rw [upd_same, List.map_append, List.map_append]; rfl, hP3.lst hDp hDg, Kp.mut (kp'.trans kp3) hD⟩
        rintro Dl H3 hD ⟨cs, hcl, h1, hP3, kp3⟩
        have hdd := kp3 _ _ hdp hdg hd2
        have hll : (row.map vS).length < 16777216 := by rw [List.length_map]; omega
        walk_at "go"
        refine w_join0 (SqL.of h1) (by rw [flat_sing, hcl, hb2, hbm.len]; omega) ?_
        rw [flat_sing]
        walk_at "go"
        refine ⟨_, row ++ [cs], rfl, by rw [List.length_append, hrw]; rfl, fun s hs => ?_, by rw [upd_same, List.map_append]; rfl, get_ne hcd (kp3 _ _ hcp hcg hc2), hP3.lst hdp hdg, Kp.mut (kp2.trans kp3) hd0, Tx.lst (tx2.trans (kp3.tx2 hP2)) hdd⟩
        rcases List.mem_append.mp hs with hs | hs
        · exact hrb s hs
        · rw [List.mem_singleton.mp hs, hcl, hb2]
      · rintro σ H2 ⟨v8, row, rfl, hrw, hrb, hd2, hc2, hP2, kp2, tx2⟩
        walk_at "go"
        refine w_tupL (SqL.of hd2) fun t ht => ?_
        have hc3 : upd H2 t (.tup (row.map vS)) c = some (.lst xs) := get_ne (ne_of_none hc2 ht) hc2
        have hll : xs.length < 16777216 := by omega
        have tx3 : Tx H1 (upd (upd H2 t (.tup (row.map vS))) c (.lst (xs ++ [.ref t]))) := Tx.lst (Tx.new tx2 ht) hc3
        walk_at "go"
        refine ⟨_, _, _, xs ++ [.ref t], rows ++ [row], rfl, by rw [List.length_append, hrl]; rfl, (hR.tx tx3).snoc (SqT.of (get_ne (ne_of_none hc2 ht).symm upd_same)), fun r hr => ?_, upd_same, (hP2.new ht).lst hcp hcg, Kp.mut (Kp.new kp2 ht) hc0, tx1.trans tx3⟩
        rcases List.mem_append.mp hr with hr | hr
        · exact hgood r hr
        · rw [List.mem_singleton.mp hr]
          exact ⟨hrw, hrb⟩
    · rintro σ H1 ⟨v6, v7, v8, xs, rows, rfl, hrl, hR, hgood, hcx, hP1, kp1, tx1⟩
      rw [Int.toNat_natCast] at hrl
      walk_at "go"
      refine w_tupL (SqL.of hcx) fun t ht => ?_
      walk_at "go"
      refine w_new (by simp) fun y hy => ?_
      have tx2 : Tx H1 (upd (upd H1 t (.tup xs)) y (.tup [vS l, .ref pf, .ref pb, .ref t])) := Tx.new (Tx.new (Tx.refl _) ht) hy
      have flen := hfm.len
      have blen := hbm.len
      refine q _ ⟨l, forth, back, rows⟩ y ⟨?_, lnd, by show l.length ≤ 6; omega, by show forth.length ≤ 2000; omega, by show back.length ≤ 2000; omega, by rw [← flen] at hfm; exact hfm, by rw [← blen] at hbm; exact hbm, by show rows.length = forth.length; omega, hgood⟩ (by show forth.length ≤ 400; omega) (by show back.length ≤ 400; omega)
        ⟨pf, pb, t, SqT.of upd_same, hft9.tx (tx1.trans tx2), hbt9.tx (tx1.trans tx2), (hR.tx tx2).tab (SqT.of (get_ne (ne_of_none upd_same hy) upd_same))⟩ ((hP1.new ht).new hy) (Kp.new (Kp.new kp1 ht) hy)
      intro e
      have e' : l = [] := e
      rw [e'] at hl
      simp at hl
      omega
abbrev s__law_counter : Stmt := topS 14
theorem sc__law_counter : FnScope ["pool", "letters", "many", "others", "names", "forth", "table", "state", "row", "place", "back", "other"] ["pool"] (defScope s__law_counter) := ⟨rfl, rfl, rfl, by decide +kernel, rfl, by decide +kernel, by decide +kernel⟩
theorem ok__law_counter (c__law_letters : Cal P w K mg base 2 "_law_letters" spLetters) (c__law_draw : Cal P w K mg base 1 "_law_draw" spDraw) (F : At K mg "_law_counter" s__law_counter) (b_len : mg "len" = none) (b_range : mg "range" = none) (b_tuple : mg "tuple" = none) : Cal P w K mg base 3 "_law_counter" (spReaders2 K) := by
  refine F.cal sc__law_counter (fun vs H Q E h => ?_) (fun _ _ _ _ _ _ us hl => match us, hl with | [_], _ => rfl) (fun f cdv A outer s H vs Q E hr h => ?_)
  · obtain ⟨p, g, rfl, _⟩ := h
    rfl
  · obtain ⟨p, g, rfl, hP, q⟩ := h
    refine ⟨_, (pss_cons (ps_set (i := 1) sc__law_counter.nd rfl (.inl rfl) (pe_c c__law_letters hr (by decide) (by rfl) (pa_cons (pv 0) (pa_cons (pe_op op_add pe_int (pe_c c__law_draw hr (by decide) (by rfl) (pa_cons (pv 0) (pa_cons pe_int pa_nil)))) pa_nil))))
      (pss_cons (ps_set (i := 2) sc__law_counter.nd rfl (.inr rfl) (pe_op op_add pe_int (pe_c c__law_draw hr (by decide) (by rfl) (pa_cons (pv 0) (pa_cons pe_int pa_nil)))))
      (pss_cons (ps_set (i := 3) sc__law_counter.nd rfl (.inr rfl) (pe_op op_add pe_int (pe_c c__law_draw hr (by decide) (by rfl) (pa_cons (pv 0) (pa_cons pe_int pa_nil)))))
      (pss_cons (ps_set (i := 4) sc__law_counter.nd rfl (.inr rfl) (pe_op op_addS (pe_strL [46] (by decide +kernel)) (pe_m0 PySem.F.slot_str_upper PySem.F.type_str_upper mt_upperA (pe_c c__law_letters hr (by decide) (by rfl) (pa_cons (pv 0) (pa_cons pe_int pa_nil))))))
      (pss_cons (ps_set (i := 5) sc__law_counter.nd rfl (.inl rfl) (pe_lst pa_nil))
      (pss_cons (ps_set (i := 6) sc__law_counter.nd rfl (.inl rfl) (pe_lst pa_nil))
      (pss_cons (ps_for PassesOwn.never rfl (pi_range1 (by rfl) b_range (pa_cons (pv 2) pa_nil)) (pg_name (i := 7) sc__law_counter.nd rfl (.inr rfl))
      (pss_cons (ps_expr (pe_bm PySem.F.plainAttrs_list PySem.F.slot_list_append PySem.F.type_list_append mt_append (pv 5) (pa_cons (pe_callTy call_tupL (by rfl) b_tuple (by decide +kernel) (pa_cons (pe_lc (own := [("place", 9)]) (g := gName 9) (tt := tYes)  rfl sc__law_counter.nd (pi_range1 (by rfl) b_range (pa_cons (pe_callB call_lenS (by rfl) b_len PySem.boot_len (pa_cons (pv 1) pa_nil)) pa_nil)) (blkOk_by (N := ["pool", "letters", "many", "others", "names", "forth", "table", "state", "row", "place", "back", "other"]) (sc := defScope s__law_counter) (by decide +kernel)) (fun _ _ _ _ _ => (pg_name (i := 9) sc__law_counter.nd rfl (.inl rfl))) (fun _ _ _ _ _ => pts_nil) (fun _ _ _ _ _ => (pe_op op_mod (pe_op op_add (pe_op op_add (pe_op op_mul (pv 7) pe_int) (pv 9)) pe_int) (pv 2)))) pa_nil)) pa_nil)))
      (pss_cons (ps_set (i := 8) sc__law_counter.nd rfl (.inl rfl) (pe_lst pa_nil))
      (pss_cons (ps_for PassesOwn.never rfl (pi_range1 (by rfl) b_range (pa_cons (pe_callB call_lenS (by rfl) b_len PySem.boot_len (pa_cons (pv 1) pa_nil)) pa_nil)) (pg_name (i := 9) sc__law_counter.nd rfl (.inr rfl))
      (pss_one (ps_expr (pe_bm PySem.F.plainAttrs_list PySem.F.slot_list_append PySem.F.type_list_append mt_append (pv 8) (pa_cons (pe_m1 PySem.F.slot_str_join PySem.F.type_str_join mt_join0 (pe_strL [] (by decide +kernel)) (pe_lc (own := [("other", 11)]) (g := gName 11) (tt := tYes)  rfl sc__law_counter.nd (pi_range1 (by rfl) b_range (pa_cons (pv 3) pa_nil)) (blkOk_by (N := ["pool", "letters", "many", "others", "names", "forth", "table", "state", "row", "place", "back", "other"]) (sc := defScope s__law_counter) (by decide +kernel)) (fun _ _ _ _ _ => (pg_name (i := 11) sc__law_counter.nd rfl (.inl rfl))) (fun _ _ _ _ _ => pts_nil) (fun _ _ _ _ _ => (pe_ix ix_S (pv 4) (pe_op op_mod (pe_op op_add (pe_op op_add (pv 7) (pv 9)) (pe_op op_mul (pv 11) pe_int)) pe_int) (fun _ _ => rfl))))) pa_nil)))))
      (pss_one (ps_expr (pe_bm PySem.F.plainAttrs_list PySem.F.slot_list_append PySem.F.type_list_append mt_append (pv 6) (pa_cons (pe_callTy call_tupL (by rfl) b_tuple (by decide +kernel) (pa_cons (pv 8) pa_nil)) pa_nil))))))))
      (pss_cons (ps_set (i := 10) sc__law_counter.nd rfl (.inl rfl) (pe_lst pa_nil))
      (pss_cons (ps_for PassesOwn.never rfl (pi_range1 (by rfl) b_range (pa_cons (pv 3) pa_nil)) (pg_name (i := 7) sc__law_counter.nd rfl (.inr rfl))
      (pss_one (ps_expr (pe_bm PySem.F.plainAttrs_list PySem.F.slot_list_append PySem.F.type_list_append mt_append (pv 10) (pa_cons (pe_callTy call_tupL (by rfl) b_tuple (by decide +kernel) (pa_cons (pe_lc (own := [("place", 9)]) (g := gName 9) (tt := tYes)  rfl sc__law_counter.nd (pi_range1 (by rfl) b_range (pa_cons (pe_callB call_lenS (by rfl) b_len PySem.boot_len (pa_cons (pv 1) pa_nil)) pa_nil)) (blkOk_by (N := ["pool", "letters", "many", "others", "names", "forth", "table", "state", "row", "place", "back", "other"]) (sc := defScope s__law_counter) (by decide +kernel)) (fun _ _ _ _ _ => (pg_name (i := 9) sc__law_counter.nd rfl (.inl rfl))) (fun _ _ _ _ _ => pts_nil) (fun _ _ _ _ _ => (pe_op op_mod (pe_op op_add (pe_op op_add (pe_op op_mul (pv 7) pe_int) (pv 9)) pe_int) (pv 3)))) pa_nil)) pa_nil)))))
      (pss_one (ps_ret (pe_tup (pa_cons (pv 1) (pa_cons (pe_callTy call_tupL (by rfl) b_tuple (by decide +kernel) (pa_cons (pv 5) pa_nil)) (pa_cons (pe_callTy call_tupL (by rfl) b_tuple (by decide +kernel) (pa_cons (pv 10) pa_nil)) (pa_cons (pe_callTy call_tupL (by rfl) b_tuple (by decide +kernel) (pa_cons (pv 6) pa_nil)) pa_nil)))))))))))))))), ?_⟩
    refine st_is (σ' := start _ _) (σ := [some (.ref p), none, none, none, none, none, none, none, none, none, none, none]) rfl ?_
    try dsimp only [cxOf, Cx.nox, Cx.wish]
    walk_at "go"
    refine ⟨p, g, 3, rfl, hP, by omega, by omega, fun H1 r1 hr1 hP1 kp1 => ?_⟩
    walk_at "go"
    rw [show (2 : Int) + (r1 : Int) = ((r1 + 2 : Nat) : Int) by omega]
    refine ⟨p, g, r1 + 2, rfl, hP1, by omega, by omega, fun H2 l hl lnd lal hP2 kp2 => ?_⟩
    walk_at "go"
    refine ⟨p, g, 4, rfl, hP2, by omega, by omega, fun H3 r3 hr3 hP3 kp3 => ?_⟩
    walk_at "go"
    refine ⟨p, g, 4, rfl, hP3, by omega, by omega, fun H4 r4 hr4 hP4 kp4 => ?_⟩
    walk_at "go"
    refine ⟨p, g, 3, rfl, hP4, by omega, by omega, fun H5 nm hnm _ hnal hP5 kp5 => ?_⟩
    have kp05 := (((kp1.trans kp2).trans kp3).trans kp4).trans kp5
    rw [show (3 : Int) + (r3 : Int) = ((r3 + 3 : Nat) : Int) by omega, show (4 : Int) + (r4 : Int) = ((r4 + 4 : Nat) : Int) by omega]
    walk_at "go"
    refine w_upper (by omega) hnal fun nu hnu => ?_
    have hn4 : (46 :: nu).length = 4 := by rw [List.length_cons]; omega
    walk_at "go"
    refine w_new (by simp) fun c hc => ?_
    walk_at "go"
    refine w_new (by simp) fun d hd => ?_
    walk_at "go"
    have hcd : c ≠ d := ne_of_none upd_same hd
    have hd0' := (none_of_upd hd).1
    have hcp := hP5.ne1 hc
    have hcg := hP5.ne2 hc
    have hdp := hP5.ne1 hd0'
    have hdg := hP5.ne2 hd0'
    have hc0 := Kp.fresh kp05 hcp hcg hc
    have hd0 := Kp.fresh kp05 hdp hdg hd0'
    have hP6 := (hP5.new (o := .lst []) hc).new (o := .lst []) hd
    have kp6 : Kp p g H (upd (upd H5 c (.lst [])) d (.lst [])) := Kp.new (Kp.new kp05 hc) hd
    have hc6 : upd (upd H5 c (.lst [])) d (.lst []) c = some (.lst []) := get_ne hcd upd_same
    have hd6 : upd (upd H5 c (.lst [])) d (.lst []) d = some (.lst []) := upd_same
    generalize upd (upd H5 c (.lst [])) d (.lst []) = H6 at hP6 kp6 hc6 hd6 ⊢
    refine w_rng1 (by omega) (by omega) (fun i σ H' => ∃ v7 v8 v9, ∃ (xs ys : List V) (forth : List (List Nat)) (table : List (List (List Nat))), σ = [some (.ref p), some (vS l), some (vI (r3 + 3)), some (vI (r4 + 4)), some (vS (46 :: nu)), some (.ref c), some (.ref d), v7, v8, v9, none, none] ∧
        forth.length = i ∧ table.length = i ∧ Rows K H' vI xs forth ∧ Rows K H' vS ys table ∧ (∀ r ∈ forth, r.length = l.length ∧ ∀ x ∈ r, x < r3 + 3) ∧ (∀ r ∈ table, r.length = l.length ∧ ∀ s ∈ r, s.length = r4 + 4) ∧ H' c = some (.lst xs) ∧ H' d = some (.lst ys) ∧ Pool2 p g H' ∧ Kp p g H H')
      ⟨_, _, _, [], [], [], [], rfl, rfl, rfl, Rows.nil, Rows.nil, (fun r hr => nomatch hr), (fun r hr => nomatch hr), hc6, hd6, hP6, kp6⟩ ?_ ?_
    · rintro i σ H1 hi ⟨v7, v8, v9, xs, ys, forth, table, rfl, hfl, htl, hR, hT, hfg, htg, hcx, hdx, hP1, kp1⟩
      have hxl := hR.1
      have hyl := hT.1
      walk_at "go"
      refine w_lcR1Q (by omega) (by omega) (fun Dl j H' => ∃ es : List Nat, es.length = j ∧ (∀ x ∈ es, x < r3 + 3) ∧ H' Dl = some (.lst (es.map vI)) ∧ Same H1 H') (fun Dl hD => ⟨[], rfl, (fun x hx => nomatch hx), upd_same, same_new hD⟩) ?_ ?_
      · rintro Dl j H' hD hj ⟨es, hel, hlt, h1, sm⟩
        walk_at "go"
        refine ⟨rfl, ?_⟩
        walk_at "go"
        have ev : ((i : Int) * 2 + (j : Int) + 1) % ((r3 + 3 : Nat) : Int) = (((i * 2 + j + 1) % (r3 + 3) : Nat) : Int) := by rw [Int.natCast_emod]; rfl
        rw [ev]
        refine w_acc h1 (by rw [List.length_map]; omega) ⟨es ++ [(i * 2 + j + 1) % (r3 + 3)], by rw [List.length_append, hel]; rfl, fun x hx => ?_, by rw [upd_same, List.map_append]; rfl, Same.mut sm hD⟩
        rcases List.mem_append.mp hx with hx | hx
        · exact hlt x hx
        · rw [List.mem_singleton.mp hx]
          exact Nat.mod_lt _ (by omega)
      rintro Dl H2 hD ⟨es, hel, hlt, h1, sm2⟩
      have hcx2 := sm2 _ _ hcx
      have hdx2 := sm2 _ _ hdx
      walk_at "go"
      refine w_tupL (SqL.of h1) fun t ht => ?_
      have hcx3 : upd H2 t (.tup (es.map vI)) c = some (.lst xs) := get_ne (ne_of_none hcx2 ht) hcx2
      have hll : xs.length < 16777216 := by omega
      walk_at "go"
      refine w_new (by simp) fun e he => ?_
      have tx : Tx H1 (upd (upd H2 t (.tup (es.map vI))) c (.lst (xs ++ [.ref t]))) := Tx.lst (Tx.new (Tx.of_same sm2) ht) hcx3
      have ht3 : SqT K (upd (upd H2 t (.tup (es.map vI))) c (.lst (xs ++ [.ref t]))) t (es.map vI) := SqT.of (get_ne (ne_of_none hcx2 ht).symm upd_same)
      have hR3 := (hR.tx tx).snoc ht3
      have hT3 := hT.tx tx
      have hP3 : Pool2 p g (upd (upd H2 t (.tup (es.map vI))) c (.lst (xs ++ [.ref t]))) := ((hP1.same sm2).new ht).lst hcp hcg
      have kp3 : Kp p g H (upd (upd H2 t (.tup (es.map vI))) c (.lst (xs ++ [.ref t]))) := Kp.mut (Kp.new (kp1.trans (Kp.of_same sm2)) ht) hc0
      have hc3 : upd (upd H2 t (.tup (es.map vI))) c (.lst (xs ++ [.ref t])) c = some (.lst (xs ++ [.ref t])) := upd_same
      have hd3 : upd (upd H2 t (.tup (es.map vI))) c (.lst (xs ++ [.ref t])) d = some (.lst ys) := get_ne hcd.symm (get_ne (ne_of_none hdx2 ht) hdx2)
      generalize upd (upd H2 t (.tup (es.map vI))) c (.lst (xs ++ [.ref t])) = H3 at he hR3 hT3 hP3 kp3 hc3 hd3 ⊢
      clear tx ht3 hcx3 hcx2 hdx2 h1 sm2 hR hT hP1 kp1 hcx hdx
      have hep := hP3.ne1 he
      have heg := hP3.ne2 he
      have hce : c ≠ e := ne_of_none hc3 he
      have hde : d ≠ e := ne_of_none hd3 he
      have he0 := Kp.fresh kp3 hep heg he
      walk_at "go"
      refine w_rng1 (by omega) (by omega) (fun j σ H' => ∃ v9, ∃ row : List (List Nat), σ = [some (.ref p), some (vS l), some (vI (r3 + 3)), some (vI (r4 + 4)), some (vS (46 :: nu)), some (.ref c), some (.ref d), some (vI i), some (.ref e), v9, none, none] ∧ row.length = j ∧ (∀ s ∈ row, s.length = r4 + 4) ∧
          H' e = some (.lst (row.map vS)) ∧ H' c = some (.lst (xs ++ [.ref t])) ∧ H' d = some (.lst ys) ∧ Pool2 p g H' ∧ Kp p g H H' ∧ Tx H3 H')
        ⟨_, [], rfl, rfl, (fun x hx => nomatch hx), upd_same, get_ne hce hc3, get_ne hde hd3, hP3.new he, Kp.new kp3 he, Tx.new (Tx.refl _) he⟩ ?_ ?_
      · rintro j σ H4 hj ⟨v9, row, rfl, hrw, hrb, he4, hc4, hd4, hP4, kp4, tx4⟩
        walk_at "go"
        refine w_lcR1Q (by omega) (by omega) (fun Dl k H' => ∃ cs : List Nat, cs.length = k ∧ H' Dl = some (.lst ((cs.map fun c => [c]).map vS)) ∧ Same H4 H') (fun Dl hD => ⟨[], rfl, upd_same, same_new hD⟩) ?_ ?_
        · rintro Dl k H' hD hk ⟨cs, hcl, h1, sm⟩
          walk_at "go"
          refine ⟨rfl, ?_⟩
          have ev : ((i : Int) + (j : Int) + (k : Int) * 3) % 4 = (((i + j + k * 3) % 4 : Nat) : Int) := by omega
          walk_at "go"
          rw [ev]
          refine w_ixS (by omega) (atI_nat (getD_at (d := 0) (by omega))) ?_
          exact w_acc h1 (by rw [List.length_map, List.length_map]; omega) ⟨cs ++ [(46 :: nu).getD ((i + j + k * 3) % 4) 0], by rw [List.length_append, hcl]; rfl, by rw [upd_same, List.map_append, List.map_append]; rfl, Same.mut sm hD⟩
        rintro Dl H5' hD ⟨cs, hcl, h1, sm5⟩
        have he5 := sm5 _ _ he4
        have hll2 : (row.map vS).length < 16777216 := by rw [List.length_map]; omega
        walk_at "go"
        refine w_join0 (SqL.of h1) (by rw [flat_sing]; omega) ?_
        rw [flat_sing]
        walk_at "go"
        refine ⟨_, row ++ [cs], rfl, by rw [List.length_append, hrw]; rfl, fun s hs => ?_, by rw [upd_same, List.map_append]; rfl, get_ne hce (sm5 _ _ hc4), get_ne hde (sm5 _ _ hd4), (hP4.same sm5).lst hep heg, Kp.mut (kp4.trans (Kp.of_same sm5)) he0, Tx.lst (tx4.trans (Tx.of_same sm5)) he5⟩
        rcases List.mem_append.mp hs with hs | hs
        · exact hrb s hs
        · rw [List.mem_singleton.mp hs]
          omega
      · rintro σ H4 ⟨v9, row, rfl, hrw, hrb, he4, hc4, hd4, hP4, kp4, tx4⟩
        rw [Int.toNat_natCast] at hrw
        walk_at "go"
        refine w_tupL (SqL.of he4) fun u hu => ?_
        have hd5 : upd H4 u (.tup (row.map vS)) d = some (.lst ys) := get_ne (ne_of_none hd4 hu) hd4
        have hll3 : ys.length < 16777216 := by omega
        have tx5 : Tx H3 (upd (upd H4 u (.tup (row.map vS))) d (.lst (ys ++ [.ref u]))) := Tx.lst (Tx.new tx4 hu) hd5
        walk_at "go"
        refine ⟨_, _, _, xs ++ [.ref t], ys ++ [.ref u], forth ++ [es], table ++ [row], rfl, by rw [List.length_append, hfl]; rfl, by rw [List.length_append, htl]; rfl, hR3.tx tx5, (hT3.tx tx5).snoc (SqT.of (get_ne (ne_of_none hd4 hu).symm upd_same)), fun r hr => ?_, fun r hr => ?_, get_ne hcd (get_ne (ne_of_none hc4 hu) hc4), upd_same, (hP4.new hu).lst hdp hdg, Kp.mut (Kp.new kp4 hu) hd0⟩
        · rcases List.mem_append.mp hr with hr | hr
          · exact hfg r hr
          · rw [List.mem_singleton.mp hr]
            exact ⟨by omega, hlt⟩
        · rcases List.mem_append.mp hr with hr | hr
          · exact htg r hr
          · rw [List.mem_singleton.mp hr]
            exact ⟨hrw, hrb⟩
    · rintro σ H1 ⟨v7, v8, v9, xs, ys, forth, table, rfl, hfl, htl, hR, hT, hfg, htg, hcx, hdx, hP1, kp1⟩
      rw [Int.toNat_natCast] at hfl htl
      walk_at "go"
      refine w_new (by simp) fun e he => ?_
      have hep := hP1.ne1 he
      have heg := hP1.ne2 he
      have hce : c ≠ e := ne_of_none hcx he
      have hde : d ≠ e := ne_of_none hdx he
      have he0 := Kp.fresh kp1 hep heg he
      walk_at "go"
      refine w_rng1 (by omega) (by omega) (fun i σ H' => ∃ v7 v9, ∃ (zs : List V) (back : List (List Nat)), σ = [some (.ref p), some (vS l), some (vI (r3 + 3)), some (vI (r4 + 4)), some (vS (46 :: nu)), some (.ref c), some (.ref d), v7, v8, v9, some (.ref e), none] ∧
          back.length = i ∧ Rows K H' vI zs back ∧ (∀ r ∈ back, r.length = l.length ∧ ∀ x ∈ r, x < r4 + 4) ∧ H' e = some (.lst zs) ∧ H' c = some (.lst xs) ∧ H' d = some (.lst ys) ∧ Pool2 p g H' ∧ Kp p g H H' ∧ Tx H1 H')
        ⟨_, _, [], [], rfl, rfl, Rows.nil, (fun r hr => nomatch hr), upd_same, get_ne hce hcx, get_ne hde hdx, hP1.new he, Kp.new kp1 he, Tx.new (Tx.refl _) he⟩ ?_ ?_
      · rintro i σ H2 hi ⟨v7, v9, zs, back, rfl, hbl, hB, hbg, he2, hc2, hd2, hP2, kp2, tx2⟩
        have hzl := hB.1
        walk_at "go"
        refine w_lcR1Q (by omega) (by omega) (fun Dl j H' => ∃ es : List Nat, es.length = j ∧ (∀ x ∈ es, x < r4 + 4) ∧ H' Dl = some (.lst (es.map vI)) ∧ Same H2 H') (fun Dl hD => ⟨[], rfl, (fun x hx => nomatch hx), upd_same, same_new hD⟩) ?_ ?_
        · rintro Dl j H' hD hj ⟨es, hel, hlt, h1, sm⟩
          walk_at "go"
          refine ⟨rfl, ?_⟩
          walk_at "go"
          have ev : ((i : Int) * 3 + (j : Int) + 1) % ((r4 + 4 : Nat) : Int) = (((i * 3 + j + 1) % (r4 + 4) : Nat) : Int) := by rw [Int.natCast_emod]; rfl
          rw [ev]
          refine w_acc h1 (by rw [List.length_map]; omega) ⟨es ++ [(i * 3 + j + 1) % (r4 + 4)], by rw [List.length_append, hel]; rfl, fun x hx => ?_, by rw [upd_same, List.map_append]; rfl, Same.mut sm hD⟩
          rcases List.mem_append.mp hx with hx | hx
          · exact hlt x hx
          · rw [List.mem_singleton.mp hx]
            exact Nat.mod_lt _ (by omega)
        rintro Dl H3 hD ⟨es, hel, hlt, h1, sm3⟩
        have he3 := sm3 _ _ he2
        walk_at "go"
        refine w_tupL (SqL.of h1) fun t ht => ?_
        have he4 : upd H3 t (.tup (es.map vI)) e = some (.lst zs) := get_ne (ne_of_none he3 ht) he3
        have hll : zs.length < 16777216 := by omega
        have tx : Tx H2 (upd (upd H3 t (.tup (es.map vI))) e (.lst (zs ++ [.ref t]))) := Tx.lst (Tx.new (Tx.of_same sm3) ht) he4
        have hc3 := sm3 _ _ hc2
        have hd3 := sm3 _ _ hd2
        walk_at "go"
        refine ⟨_, _, zs ++ [.ref t], back ++ [es], rfl, by rw [List.length_append, hbl]; rfl, (hB.tx tx).snoc (SqT.of (get_ne (ne_of_none he3 ht).symm upd_same)), fun r hr => ?_, upd_same, get_ne hce (get_ne (ne_of_none hc3 ht) hc3), get_ne hde (get_ne (ne_of_none hd3 ht) hd3), ((hP2.same sm3).new ht).lst hep heg, Kp.mut (Kp.new (kp2.trans (Kp.of_same sm3)) ht) he0, tx2.trans tx⟩
        rcases List.mem_append.mp hr with hr | hr
        · exact hbg r hr
        · rw [List.mem_singleton.mp hr]
          exact ⟨by omega, hlt⟩
      · rintro σ H2 ⟨v7, v9, zs, back, rfl, hbl, hB, hbg, he2, hc2, hd2, hP2, kp2, tx2⟩
        rw [Int.toNat_natCast] at hbl
        walk_at "go"
        refine w_tupL (SqL.of hc2) fun pf hpf => ?_
        have he3 : upd H2 pf (.tup xs) e = some (.lst zs) := get_ne (ne_of_none he2 hpf) he2
        have hd3 : upd H2 pf (.tup xs) d = some (.lst ys) := get_ne (ne_of_none hd2 hpf) hd2
        walk_at "go"
        refine w_tupL (SqL.of he3) fun pb hpb => ?_
        have hd4 : upd (upd H2 pf (.tup xs)) pb (.tup zs) d = some (.lst ys) := get_ne (ne_of_none hd3 hpb) hd3
        walk_at "go"
        refine w_tupL (SqL.of hd4) fun pt hpt => ?_
        walk_at "go"
        refine w_new (by simp) fun y hy => ?_
        have sm9 : Same H2 (upd (upd (upd (upd H2 pf (.tup xs)) pb (.tup zs)) pt (.tup ys)) y (.tup [vS l, .ref pf, .ref pb, .ref pt])) := Same.new' (Same.new' (Same.new' (same_new hpf) hpb) hpt) hy
        have tx9 := Tx.of_same sm9
        have s1 : upd (upd (upd (upd H2 pf (.tup xs)) pb (.tup zs)) pt (.tup ys)) y (.tup [vS l, .ref pf, .ref pb, .ref pt]) pf = some (.tup xs) := by
          have a0 : upd H2 pf (.tup xs) pf = some (.tup xs) := upd_same
          have a1 := get_ne (o := HO.tup zs) (ne_of_none a0 hpb) a0
          have a2 := get_ne (o := HO.tup ys) (ne_of_none a1 hpt) a1
          exact get_ne (ne_of_none a2 hy) a2
        have s2 : upd (upd (upd (upd H2 pf (.tup xs)) pb (.tup zs)) pt (.tup ys)) y (.tup [vS l, .ref pf, .ref pb, .ref pt]) pb = some (.tup zs) := by
          have a0 : upd (upd H2 pf (.tup xs)) pb (.tup zs) pb = some (.tup zs) := upd_same
          have a2 := get_ne (o := HO.tup ys) (ne_of_none a0 hpt) a0
          exact get_ne (ne_of_none a2 hy) a2
        have s3 : upd (upd (upd (upd H2 pf (.tup xs)) pb (.tup zs)) pt (.tup ys)) y (.tup [vS l, .ref pf, .ref pb, .ref pt]) pt = some (.tup ys) := get_ne (ne_of_none upd_same hy) upd_same
        refine q _ ⟨l, forth, back, table⟩ y ⟨fun e => ?_, lnd, by show l.length ≤ 6; omega, by show forth.length ≤ 2000; omega, by show back.length ≤ 2000; omega, ⟨by show 0 < forth.length; omega, rfl, ?_⟩, ⟨by show 0 < back.length; omega, rfl, ?_⟩, by show table.length = forth.length; omega, ?_⟩ (by show 2 ≤ l.length; omega) (by show forth.length ≤ 400; omega) (by show back.length ≤ 400; omega)
          ⟨pf, pb, pt, SqT.of upd_same, (hR.tx (tx2.trans tx9)).tab (SqT.of s1), (hB.tx tx9).tab (SqT.of s2), (hT.tx (tx2.trans tx9)).tab (SqT.of s3)⟩ (hP2.same sm9) (kp2.trans (Kp.of_same sm9))
        · have e' : l = [] := e
          rw [e'] at hl
          simp at hl
        · show ∀ r ∈ forth, r.length = l.length ∧ ∀ x ∈ r, x < forth.length
          rw [hfl]
          exact hfg
        · show ∀ r ∈ back, r.length = l.length ∧ ∀ x ∈ r, x < back.length
          rw [hbl]
          exact hbg
        · show ∀ r ∈ table, r.length = l.length ∧ ∀ s ∈ r, s.length = back.length
          rw [hbl]
          exact htg
abbrev s__law_wide : Stmt := topS 15
theorem sc__law_wide : FnScope ["pool", "letters", "shift", "long", "forth", "back", "table", "state"] ["pool"] (defScope s__law_wide) := ⟨rfl, rfl, rfl, by decide +kernel, rfl, by decide +kernel, by decide +kernel⟩
theorem rep_len_nat (n : Nat) (l : List Nat) : (rep (n : Int) l).length = n * l.length := by rw [rep_len, Int.toNat_natCast]
theorem ok__law_wide (c__law_letters : Cal P w K mg base 2 "_law_letters" spLetters) (c__law_draw : Cal P w K mg base 1 "_law_draw" spDraw) (F : At K mg "_law_wide" s__law_wide) (b_range : mg "range" = none) (b_tuple : mg "tuple" = none) (b_int : mg "int" = none) : Cal P w K mg base 3 "_law_wide" (spReaders K) := by
  refine F.cal sc__law_wide (fun vs H Q E h => ?_) (fun _ _ _ _ _ _ us hl => match us, hl with | [_], _ => rfl) (fun f cdv A outer s H vs Q E hr h => ?_)
  · obtain ⟨p, g, rfl, _⟩ := h
    rfl
  · obtain ⟨p, g, rfl, hP, q⟩ := h
    refine ⟨_, (pss_cons (ps_set (i := 1) sc__law_wide.nd rfl (.inl rfl) (pe_c c__law_letters hr (by decide) (by rfl) (pa_cons (pv 0) (pa_cons pe_int pa_nil))))
      (pss_cons (ps_set (i := 2) sc__law_wide.nd rfl (.inr rfl) (pe_op op_add pe_int (pe_c c__law_draw hr (by decide) (by rfl) (pa_cons (pv 0) (pa_cons pe_int pa_nil)))))
      (pss_cons (ps_set (i := 3) sc__law_wide.nd rfl (.inr rfl) (pe_op op_mulS (pe_op op_addS (pe_op op_addS (pe_op op_mulS (pe_strL [81] (by decide +kernel)) (pv 2)) (pe_strL [46, 75] (by decide +kernel))) (pe_op op_mulS (pe_strL [90, 46] (by decide +kernel)) pe_int)) pe_int))
      (pss_cons (ps_set (i := 4) sc__law_wide.nd rfl (.inl rfl) (pe_callTy call_tupL (by rfl) b_tuple (by decide +kernel) (pa_cons (pe_lc (own := [("state", 7)]) (g := gName 7) (tt := tYes)  rfl sc__law_wide.nd (pi_range1 (by rfl) b_range (pa_cons pe_int pa_nil)) (blkOk_by (N := ["pool", "letters", "shift", "long", "forth", "back", "table", "state"]) (sc := defScope s__law_wide) (by decide +kernel)) (fun _ _ _ _ _ => (pg_name (i := 7) sc__law_wide.nd rfl (.inl rfl))) (fun _ _ _ _ _ => pts_nil) (fun _ _ _ _ _ => (pe_tup (pa_cons (pe_op op_mod (pe_callTy call_intI (by rfl) b_int (by decide +kernel) (pa_cons (pe_op op_add (pv 7) pe_int) pa_nil)) pe_int) (pa_cons (pe_op op_mod (pe_callTy call_intI (by rfl) b_int (by decide +kernel) (pa_cons (pe_op op_add (pe_op op_mul (pv 7) pe_int) (pv 2)) pa_nil)) pe_int) pa_nil))))) pa_nil)))
      (pss_cons (ps_set (i := 5) sc__law_wide.nd rfl (.inl rfl) (pe_callTy call_tupL (by rfl) b_tuple (by decide +kernel) (pa_cons (pe_lc (own := [("state", 7)]) (g := gName 7) (tt := tYes)  rfl sc__law_wide.nd (pi_range1 (by rfl) b_range (pa_cons pe_int pa_nil)) (blkOk_by (N := ["pool", "letters", "shift", "long", "forth", "back", "table", "state"]) (sc := defScope s__law_wide) (by decide +kernel)) (fun _ _ _ _ _ => (pg_name (i := 7) sc__law_wide.nd rfl (.inl rfl))) (fun _ _ _ _ _ => pts_nil) (fun _ _ _ _ _ => (pe_tup (pa_cons (pe_op op_mod (pe_callTy call_intI (by rfl) b_int (by decide +kernel) (pa_cons (pe_op op_add (pe_op op_mul (pv 7) pe_int) (pv 2)) pa_nil)) pe_int) (pa_cons (pe_op op_mod (pe_callTy call_intI (by rfl) b_int (by decide +kernel) (pa_cons (pe_op op_add (pv 7) pe_int) pa_nil)) pe_int) pa_nil))))) pa_nil)))
      (pss_cons (ps_set (i := 6) sc__law_wide.nd rfl (.inl rfl) (pe_callTy call_tupL (by rfl) b_tuple (by decide +kernel) (pa_cons (pe_lc (own := [("state", 7)]) (g := gName 7) (tt := tYes)  rfl sc__law_wide.nd (pi_range1 (by rfl) b_range (pa_cons pe_int pa_nil)) (blkOk_by (N := ["pool", "letters", "shift", "long", "forth", "back", "table", "state"]) (sc := defScope s__law_wide) (by decide +kernel)) (fun _ _ _ _ _ => (pg_name (i := 7) sc__law_wide.nd rfl (.inl rfl))) (fun _ _ _ _ _ => pts_nil) (fun _ _ _ _ _ => (pe_tup (pa_cons (pe_slice sl_S (pv 3) (po_some (pv 7)) (po_some (pe_op op_add (pv 7) pe_int))) (pa_cons (pe_slice sl_S (pv 3) (po_some (pe_op op_add (pv 7) pe_int)) (po_some (pe_op op_add (pv 7) pe_int))) pa_nil))))) pa_nil)))
      (pss_one (ps_ret (pe_tup (pa_cons (pv 1) (pa_cons (pv 4) (pa_cons (pv 5) (pa_cons (pv 6) pa_nil))))))))))))), ?_⟩
    refine st_is (σ' := start _ _) (σ := [some (.ref p), none, none, none, none, none, none, none]) rfl ?_
    try dsimp only [cxOf, Cx.nox, Cx.wish]
    walk_at "go"
    refine ⟨p, g, 2, rfl, hP, by omega, by omega, fun H1 l hl lnd lal hP1 kp1 => ?_⟩
    walk_at "go"
    refine ⟨p, g, 298, rfl, hP1, by omega, by omega, fun H2 s0 hs0 hP2 kp2 => ?_⟩
    have kp02 := kp1.trans kp2
    walk_at "go"
    rw [show (1 : Int) + (s0 : Int) = ((s0 + 1 : Nat) : Int) by omega]
    have r1 := rep_len_nat (s0 + 1) [81]
    rw [List.length_singleton, Nat.mul_one] at r1
    generalize rep ((s0 + 1 : Nat) : Int) [81] = q1 at r1 ⊢
    refine w_addS (by show _ + 2 ≤ _; omega) ?_
    walk_at "go"
    refine w_addS (by rw [List.length_append, show (7 : Int) = ((7 : Nat) : Int) from rfl, rep_len_nat]; show _ + 2 + 7 * 2 ≤ _; omega) ?_
    walk_at "go"
    have r2 : (q1 ++ [46, 75] ++ rep 7 [90, 46]).length = s0 + 17 := by
      rw [List.length_append, List.length_append, r1, show (7 : Int) = ((7 : Nat) : Int) from rfl, rep_len_nat]
      show s0 + 1 + 2 + 7 * 2 = _
      omega
    generalize q1 ++ [46, 75] ++ rep 7 [90, 46] = q2 at r2 ⊢
    refine w_mulS (by omega) (by omega) (by rw [r2]; show (s0 + 17) * 300 ≤ _; omega) ?_
    have r3 : (rep 300 q2).length = 300 * (s0 + 17) := by rw [show (300 : Int) = ((300 : Nat) : Int) from rfl, rep_len_nat, r2]
    generalize rep 300 q2 = lg at r3 ⊢
    walk_at "go"
    refine w_lcR1Q (by omega) (by omega) (fun Dl i H' => ∃ (xs : List V) (rows : List (List Nat)), rows.length = i ∧ Rows K H' vI xs rows ∧ (∀ r ∈ rows, r.length = 2 ∧ ∀ x ∈ r, x < 300) ∧ H' Dl = some (.lst xs) ∧ Same H2 H') (fun Dl hD => ⟨[], [], rfl, Rows.nil, (fun r hr => nomatch hr), upd_same, same_new hD⟩) ?_ ?_
    · rintro Dl i H' hD hi ⟨xs, rows, hrl, hR, hgood, h1, sm⟩
      have hxl := hR.1
      walk_at "go"
      refine ⟨rfl, ?_⟩
      walk_at "go"
      refine w_new (by simp) fun t ht => ?_
      have h2 := get_ne (o := HO.tup [V.int (((i : Int) + 1) % 300), V.int (((i : Int) * 7 + ((s0 + 1 : Nat) : Int)) % 300)]) (ne_of_none h1 ht) h1
      refine w_acc h2 (by omega) ⟨xs ++ [.ref t], rows ++ [[(i + 1) % 300, (i * 7 + (s0 + 1)) % 300]], by rw [List.length_append, hrl]; rfl, (hR.tx (Tx.lst (Tx.new (Tx.refl _) ht) h2)).snoc (SqT.of ?_), fun r hr => ?_, upd_same, Same.mut (Same.new' sm ht) hD⟩
      · refine get_ne (ne_of_none h1 ht).symm ?_
        rw [upd_same]
        show some (HO.tup [_, _]) = some (HO.tup [V.int (((i + 1) % 300 : Nat) : Int), V.int (((i * 7 + (s0 + 1)) % 300 : Nat) : Int)])
        rw [show (((i + 1) % 300 : Nat) : Int) = ((i : Int) + 1) % 300 by omega, show (((i * 7 + (s0 + 1)) % 300 : Nat) : Int) = ((i : Int) * 7 + ((s0 + 1 : Nat) : Int)) % 300 by omega]
      · rcases List.mem_append.mp hr with hr | hr
        · exact hgood r hr
        · rw [List.mem_singleton.mp hr]
          exact ⟨rfl, fun x hx => by
            rcases List.mem_cons.mp hx with hx | hx
            · omega
            · rw [List.mem_singleton.mp hx]
              omega⟩
    rintro Dl H3 hD ⟨xs, forth, hfl, hR, hfg, h1, sm3⟩
    walk_at "go"
    refine w_tupL (SqL.of h1) fun pf hpf => ?_
    have hft : Tab K (upd H3 pf (.tup xs)) pf vI forth := (hR.tx (Tx.new (Tx.refl _) hpf)).tab (SqT.of upd_same)
    have sm4 : Same H2 (upd H3 pf (.tup xs)) := Same.new' sm3 hpf
    generalize upd H3 pf (.tup xs) = H4 at hft sm4 ⊢
    clear hR h1 sm3
    walk_at "go"
    refine w_lcR1Q (by omega) (by omega) (fun Dl i H' => ∃ (xs : List V) (rows : List (List Nat)), rows.length = i ∧ Rows K H' vI xs rows ∧ (∀ r ∈ rows, r.length = 2 ∧ ∀ x ∈ r, x < 300) ∧ H' Dl = some (.lst xs) ∧ Same H4 H') (fun Dl hD => ⟨[], [], rfl, Rows.nil, (fun r hr => nomatch hr), upd_same, same_new hD⟩) ?_ ?_
    · rintro Dl i H' hD hi ⟨xs, rows, hrl, hR, hgood, h1, sm⟩
      have hxl := hR.1
      walk_at "go"
      refine ⟨rfl, ?_⟩
      walk_at "go"
      refine w_new (by simp) fun t ht => ?_
      have h2 := get_ne (o := HO.tup [V.int (((i : Int) * 11 + ((s0 + 1 : Nat) : Int)) % 300), V.int (((i : Int) + 299) % 300)]) (ne_of_none h1 ht) h1
      refine w_acc h2 (by omega) ⟨xs ++ [.ref t], rows ++ [[(i * 11 + (s0 + 1)) % 300, (i + 299) % 300]], by rw [List.length_append, hrl]; rfl, (hR.tx (Tx.lst (Tx.new (Tx.refl _) ht) h2)).snoc (SqT.of ?_), fun r hr => ?_, upd_same, Same.mut (Same.new' sm ht) hD⟩
      · refine get_ne (ne_of_none h1 ht).symm ?_
        rw [upd_same]
        show some (HO.tup [_, _]) = some (HO.tup [V.int (((i * 11 + (s0 + 1)) % 300 : Nat) : Int), V.int (((i + 299) % 300 : Nat) : Int)])
        rw [show (((i + 299) % 300 : Nat) : Int) = ((i : Int) + 299) % 300 by omega, show (((i * 11 + (s0 + 1)) % 300 : Nat) : Int) = ((i : Int) * 11 + ((s0 + 1 : Nat) : Int)) % 300 by omega]
      · rcases List.mem_append.mp hr with hr | hr
        · exact hgood r hr
        · rw [List.mem_singleton.mp hr]
          exact ⟨rfl, fun x hx => by
            rcases List.mem_cons.mp hx with hx | hx
            · omega
            · rw [List.mem_singleton.mp hx]
              omega⟩
    rintro Dl2 H5 hD2 ⟨xs2, back, hbl, hR2, hbg, h2, sm5⟩
    walk_at "go"
    refine w_tupL (SqL.of h2) fun pb hpb => ?_
    have hbt : Tab K (upd H5 pb (.tup xs2)) pb vI back := (hR2.tx (Tx.new (Tx.refl _) hpb)).tab (SqT.of upd_same)
    have sm6 : Same H4 (upd H5 pb (.tup xs2)) := Same.new' sm5 hpb
    generalize upd H5 pb (.tup xs2) = H6 at hbt sm6 ⊢
    clear hR2 h2 sm5
    walk_at "go"
    refine w_lcR1Q (by omega) (by omega) (fun Dl i H' => ∃ (xs : List V) (rows : List (List (List Nat))), rows.length = i ∧ Rows K H' vS xs rows ∧ (∀ r ∈ rows, r.length = 2 ∧ ∀ s ∈ r, s.length = 300) ∧ H' Dl = some (.lst xs) ∧ Same H6 H') (fun Dl hD => ⟨[], [], rfl, Rows.nil, (fun r hr => nomatch hr), upd_same, same_new hD⟩) ?_ ?_
    · rintro Dl i H' hD hi ⟨xs, rows, hrl, hR, hgood, h1, sm⟩
      have hxl := hR.1
      have e1 : cutL lg (some (i : Int)) (some ((i : Int) + 300)) = (lg.drop i).take 300 := by
        have := cutL_nn lg (a := i) (b := i + 300) (by omega) (by omega)
        rw [show i + 300 - i = 300 by omega] at this
        exact this
      have e2 : cutL lg (some ((i : Int) + 5)) (some ((i : Int) + 305)) = (lg.drop (i + 5)).take 300 := by
        have := cutL_nn lg (a := i + 5) (b := i + 305) (by omega) (by omega)
        rw [show i + 305 - (i + 5) = 300 by omega] at this
        exact this
      have g1 : ((lg.drop i).take 300).length = 300 := by rw [List.length_take, List.length_drop]; omega
      have g2 : ((lg.drop (i + 5)).take 300).length = 300 := by rw [List.length_take, List.length_drop]; omega
      walk_at "go"
      refine ⟨rfl, ?_⟩
      walk_at "go"
      rw [e1, e2]
      generalize (lg.drop i).take 300 = u1 at g1 ⊢
      generalize (lg.drop (i + 5)).take 300 = u2 at g2 ⊢
      refine w_new (by simp) fun t ht => ?_
      have h2 := get_ne (o := HO.tup [vS u1, vS u2]) (ne_of_none h1 ht) h1
      refine w_acc h2 (by omega) ⟨xs ++ [.ref t], rows ++ [[u1, u2]], by rw [List.length_append, hrl]; rfl, (hR.tx (Tx.lst (Tx.new (Tx.refl _) ht) h2)).snoc (SqT.of (get_ne (ne_of_none h1 ht).symm upd_same)), fun r hr => ?_, upd_same, Same.mut (Same.new' sm ht) hD⟩
      rcases List.mem_append.mp hr with hr | hr
      · exact hgood r hr
      · rw [List.mem_singleton.mp hr]
        exact ⟨rfl, fun x hx => by
          rcases List.mem_cons.mp hx with hx | hx
          · rw [hx]; exact g1
          · rw [List.mem_singleton.mp hx]
            exact g2⟩
    rintro Dl3 H7 hD3 ⟨xs3, table, htl, hR3, htg, h3, sm7⟩
    walk_at "go"
    refine w_tupL (SqL.of h3) fun pt hpt => ?_
    have htt : Tab K (upd H7 pt (.tup xs3)) pt vS table := (hR3.tx (Tx.new (Tx.refl _) hpt)).tab (SqT.of upd_same)
    have sm8 : Same H6 (upd H7 pt (.tup xs3)) := Same.new' sm7 hpt
    generalize upd H7 pt (.tup xs3) = H8 at htt sm8 ⊢
    walk_at "go"
    refine w_new (by simp) fun y hy => ?_
    have sm9 : Same H8 (upd H8 y (.tup [vS l, .ref pf, .ref pb, .ref pt])) := same_new hy
    have a1 := Tx.of_same ((sm6.trans sm8).trans sm9)
    have a2 := Tx.of_same (sm8.trans sm9)
    have sm29 := ((sm4.trans sm6).trans sm8).trans sm9
    have hfl' : forth.length = 300 := hfl
    have hbl' : back.length = 300 := hbl
    have htl' : table.length = 300 := htl
    refine q _ ⟨l, forth, back, table⟩ y ⟨fun e => ?_, lnd, by show l.length ≤ 6; omega, by show forth.length ≤ 2000; omega, by show back.length ≤ 2000; omega, ?_, ?_, by show table.length = forth.length; omega, ?_⟩ (by show forth.length ≤ 400; omega) (by show back.length ≤ 400; omega)
      ⟨pf, pb, pt, SqT.of upd_same, hft.tx a1, hbt.tx a2, htt.tx (Tx.of_same sm9)⟩ (hP2.same sm29) (kp02.trans (Kp.of_same sm29))
    · have e' : l = [] := e
      rw [e'] at hl
      cases hl
    · show Mov l.length forth.length forth
      rw [hl, hfl']
      exact ⟨by omega, hfl', hfg⟩
    · show Mov l.length back.length back
      rw [hl, hbl']
      exact ⟨by omega, hbl', hbg⟩
    · show ∀ r ∈ table, r.length = l.length ∧ ∀ s ∈ r, s.length = back.length
      rw [hl, hbl']
      exact htg
abbrev s__law_text : Stmt := topS 16
theorem sc__law_text : FnScope ["pool", "letters", "many", "block", "text", "at", "lap"] ["pool", "letters", "many"] (defScope s__law_text) := ⟨rfl, rfl, rfl, by decide +kernel, rfl, by decide +kernel, by decide +kernel⟩
theorem ok__law_text (c__law_draw : Cal P w K mg base 1 "_law_draw" spDraw) (F : At K mg "_law_text" s__law_text) (b_len : mg "len" = none) (b_range : mg "range" = none) : Cal P w K mg base 2 "_law_text" spText := by
  refine F.cal sc__law_text (fun vs H Q E h => ?_) (fun _ _ _ _ _ _ us hl => match us, hl with | [_, _, _], _ => rfl) (fun f cdv A outer s H vs Q E hr h => ?_)
  · obtain ⟨p, g, l, m, rfl, _⟩ := h
    rfl
  · obtain ⟨p, g, l, m, rfl, hP, l0, l6, m0, m1, q⟩ := h
    refine ⟨_, (pss_cons (ps_set (i := 3) sc__law_text.nd rfl (.inl rfl) (pe_m1 PySem.F.slot_str_join PySem.F.type_str_join mt_join0 (pe_strL [] (by decide +kernel)) (pe_lc (own := [("lap", 6)]) (g := gName 6) (tt := tYes)  rfl sc__law_text.nd (pi_range1 (by rfl) b_range (pa_cons (pe_op op_add pe_int (pe_c c__law_draw hr (by decide) (by rfl) (pa_cons (pv 0) (pa_cons pe_int pa_nil)))) pa_nil)) (blkOk_by (N := ["pool", "letters", "many", "block", "text", "at", "lap"]) (sc := defScope s__law_text) (by decide +kernel)) (fun _ _ _ _ _ => (pg_name (i := 6) sc__law_text.nd rfl (.inl rfl))) (fun _ _ _ _ _ => pts_nil) (fun _ _ _ _ _ => (pe_ix ix_S (pv 1) (pe_c c__law_draw hr (by decide) (by rfl) (pa_cons (pv 0) (pa_cons (pe_callB call_lenS (by rfl) b_len PySem.boot_len (pa_cons (pv 1) pa_nil)) pa_nil))) (fun _ _ => rfl))))))
      (pss_cons (ps_set (i := 4) sc__law_text.nd rfl (.inl rfl) (pe_slice sl_S (pe_op op_mulS (pv 3) (pe_op op_add (pe_op op_fdiv (pv 2) (pe_callB call_lenS (by rfl) b_len PySem.boot_len (pa_cons (pv 3) pa_nil))) pe_int)) po_none (po_some (pv 2))))
      (pss_cons (ps_if (pt_cmpR op_gt (pv 2) pe_int (nomark _)) (pss_cons (ps_set (i := 5) sc__law_text.nd rfl (.inl rfl) (pe_c c__law_draw hr (by decide) (by rfl) (pa_cons (pv 0) (pa_cons (pv 2) pa_nil))))
      (pss_cons (ps_set (i := 4) sc__law_text.nd rfl (.inl rfl) (pe_op op_addS (pe_op op_addS (pe_slice sl_S (pv 4) po_none (po_some (pv 5))) (pe_ix ix_S (pv 1) (pe_c c__law_draw hr (by decide) (by rfl) (pa_cons (pv 0) (pa_cons (pe_callB call_lenS (by rfl) b_len PySem.boot_len (pa_cons (pv 1) pa_nil)) pa_nil))) (fun _ _ => rfl))) (pe_slice sl_S (pv 4) (po_some (pe_op op_add (pv 5) pe_int)) po_none)))
      (pss_one (ps_set (i := 4) sc__law_text.nd rfl (.inl rfl) (pe_op op_addS (pe_op op_addS (pe_ix ix_S (pv 1) (pe_c c__law_draw hr (by decide) (by rfl) (pa_cons (pv 0) (pa_cons (pe_callB call_lenS (by rfl) b_len PySem.boot_len (pa_cons (pv 1) pa_nil)) pa_nil))) (fun _ _ => rfl)) (pe_slice sl_S (pv 4) (po_some pe_int) (po_some (pe_op op_sub (pv 2) pe_int)))) (pe_ix ix_S (pv 1) (pe_c c__law_draw hr (by decide) (by rfl) (pa_cons (pv 0) (pa_cons (pe_callB call_lenS (by rfl) b_len PySem.boot_len (pa_cons (pv 1) pa_nil)) pa_nil))) (fun _ _ => rfl))))))) pss_nil)
      (pss_one (ps_ret (pv 4)))))), ?_⟩
    refine st_is (σ' := start _ _) (σ := [some (.ref p), some (vS l), some (vI m), none, none, none, none]) rfl ?_
    try dsimp only [cxOf, Cx.nox, Cx.wish]
    have lp : 0 < l.length := List.length_pos_iff.mpr l0
    have sign : ∀ r : Nat, (r : Int) < l.length → ∃ c, c ∈ l ∧ atI l (r : Int) = some c := fun r hr => ⟨l[r]'(by omega), List.getElem_mem _, atI_nat (List.getElem?_eq_getElem (by omega))⟩
    walk_at "go"
    refine ⟨p, g, 9, rfl, hP, by omega, by omega, fun H1 n hn hP1 kp1 => ?_⟩
    walk_at "go"
    refine w_lcR1Q (by omega) (by omega) (fun Dl i H' => ∃ cs : List Nat, cs.length = i ∧ (∀ c ∈ cs, c ∈ l) ∧ H' Dl = some (.lst ((cs.map fun c => [c]).map vS)) ∧ Pool2 p g H' ∧ Kp p g H1 H') (fun Dl hD => ⟨[], rfl, (fun c hc => nomatch hc), upd_same, hP1.new hD, Kp.of_same (same_new hD)⟩) ?_ ?_
    · rintro Dl i H' hD hi ⟨cs, hcl, hcm, h1, hP', kp'⟩
      have hDp := hP1.ne1 hD
      have hDg := hP1.ne2 hD
      walk_at "go"
      refine ⟨rfl, ?_⟩
      walk_at "go"
      refine ⟨p, g, _, rfl, hP', by omega, by omega, fun H2 r hr hP2 kp2 => ?_⟩
      obtain ⟨c, hc, hat⟩ := sign r hr
      walk_at "go"
      refine w_ixS (by omega) hat ?_
      refine w_acc (kp2 _ _ hDp hDg h1) (by rw [List.length_map, List.length_map]; omega) ⟨cs ++ [c], by rw [List.length_append, hcl]; rfl, fun x hx => ?_, ?_, hP2.lst hDp hDg, Kp.mut (kp'.trans kp2) hD⟩
      · rcases List.mem_append.mp hx with hx | hx
        · exact hcm x hx
        · rw [List.mem_singleton.mp hx]
          exact hc
      · rw [upd_same, List.map_append, List.map_append]
        rfl
    rintro Dl H2 hD ⟨cs, hcl, hcm, h1, hP2, kp2⟩
    have hcl' : cs.length = n + 1 := by omega
    have kp02 := kp1.trans kp2
    walk_at "go"
    refine w_join0 (SqL.of h1) (by rw [flat_sing]; omega) ?_
    rw [flat_sing]
    have hb1 : 1 ≤ cs.length := by omega
    walk_at "go"
    have hlen := cut_rep_len (l := cs) (m := (m : Int)) hb1 (by omega)
    have hmem : ∀ x ∈ cutL (rep ((m : Int) / (cs.length : Int) + 1) cs) none (some (m : Int)), x ∈ l := fun x hx => hcm x (rep_mem (cutL_mem hx))
    have hbig : cs.length * ((m : Int) / (cs.length : Int) + 1).toNat ≤ 16777216 := by
      have e : ((m : Int) / (cs.length : Int) + 1).toNat = m / cs.length + 1 := by
        have : ((m : Int) / (cs.length : Int)) = ((m / cs.length : Nat) : Int) := rfl
        rw [this]
        generalize m / cs.length = d
        omega
      rw [e, Nat.mul_add, Nat.mul_one]
      have := Nat.mul_div_le m cs.length
      omega
    have hdiv : (0 : Int) ≤ (m : Int) / (cs.length : Int) ∧ (m : Int) / (cs.length : Int) ≤ 2000 := by
      have : ((m : Int) / (cs.length : Int)) = ((m / cs.length : Nat) : Int) := rfl
      rw [this]
      have := Nat.div_le_self m cs.length
      generalize m / cs.length = d at *
      omega
    refine w_mulS (by omega) (by omega) hbig ?_
    walk_at "go"
    refine w_slS (by rw [rep_len, Nat.mul_comm]; exact hbig) ?_
    clear hbig hdiv
    generalize cutL (rep ((m : Int) / (cs.length : Int) + 1) cs) none (some (m : Int)) = tx at hlen hmem ⊢
    walk_at "go"
    by_cases hm : 3 < m
    · rw [decide_eq_true (by omega)]
      walk_at "go"
      refine ⟨p, g, _, rfl, hP2, by omega, by omega, fun H3 a ha hP3 kp3 => ?_⟩
      walk_at "go"
      refine ⟨p, g, _, rfl, hP3, by omega, by omega, fun H4 r1 hr1 hP4 kp4 => ?_⟩
      obtain ⟨c1, hc1, hat1⟩ := sign r1 hr1
      have e1 : cutL tx none (some (a : Int)) = tx.take a := cutL_to tx a
      have e2 : cutL tx (some ((a : Int) + 1)) none = tx.drop (a + 1) := cutL_from2 tx (a + 1)
      walk_at "go"
      refine w_ixS (by omega) hat1 ?_
      rw [e1]
      walk_at "go"
      refine w_addS (by rw [List.length_take]; show _ + 1 ≤ _; omega) ?_
      walk_at "go"
      rw [e2]
      refine w_addS (by rw [List.length_append, List.length_take, List.length_drop]; show _ + 1 + _ ≤ _; omega) ?_
      have hl2 : (tx.take a ++ [c1] ++ tx.drop (a + 1)).length = m := by
        rw [List.length_append, List.length_append, List.length_take, List.length_drop, List.length_singleton]
        omega
      have hm2 : ∀ x ∈ tx.take a ++ [c1] ++ tx.drop (a + 1), x ∈ l := fun x hx => by
        rcases List.mem_append.mp hx with hx | hx
        · rcases List.mem_append.mp hx with hx | hx
          · exact hmem x (List.mem_of_mem_take hx)
          · rw [List.mem_singleton.mp hx]
            exact hc1
        · exact hmem x (List.mem_of_mem_drop hx)
      generalize tx.take a ++ [c1] ++ tx.drop (a + 1) = ty at hl2 hm2 ⊢
      walk_at "go"
      refine ⟨p, g, _, rfl, hP4, by omega, by omega, fun H5 r2 hr2 hP5 kp5 => ?_⟩
      obtain ⟨c2, hc2, hat2⟩ := sign r2 hr2
      walk_at "go"
      refine w_ixS (by omega) hat2 ?_
      have e3 : cutL ty (some 1) (some ((m : Int) - 1)) = (ty.drop 1).take (m - 2) := by
        have := cutL_nn ty (a := 1) (b := m - 1) (by omega) (by omega)
        rw [show ((m - 1 : Nat) : Int) = (m : Int) - 1 by omega, show m - 1 - 1 = m - 2 by omega] at this
        exact this
      walk_at "go"
      rw [e3]
      refine w_addS (by rw [List.length_take, List.length_drop]; show 1 + _ ≤ _; omega) ?_
      walk_at "go"
      refine ⟨p, g, _, rfl, hP5, by omega, by omega, fun H6 r3 hr3 hP6 kp6 => ?_⟩
      obtain ⟨c3, hc3, hat3⟩ := sign r3 hr3
      walk_at "go"
      refine w_ixS (by omega) hat3 ?_
      refine w_addS (by rw [List.length_append, List.length_take, List.length_drop]; show 1 + _ + 1 ≤ _; omega) ?_
      walk_at "go"
      refine q _ _ ?_ (fun x hx => ?_) hP6 ((((kp02.trans kp3).trans kp4).trans kp5).trans kp6)
      · rw [List.length_append, List.length_append, List.length_take, List.length_drop, List.length_singleton, List.length_singleton]
        omega
      · rcases List.mem_append.mp hx with hx | hx
        · rcases List.mem_append.mp hx with hx | hx
          · rw [List.mem_singleton.mp hx]
            exact hc2
          · exact hm2 x (List.mem_of_mem_drop (List.mem_of_mem_take hx))
        · rw [List.mem_singleton.mp hx]
          exact hc3
    · rw [decide_eq_false (by omega)]
      walk_at "go"
      exact q _ _ (by omega) hmem hP2 kp02
abbrev s__law_doubled : Stmt := topS 17
theorem sc__law_doubled : FnScope ["pool", "readers", "letters", "forth", "back", "table", "rows", "lap", "row", "others", "texts", "state", "text"] ["pool", "readers"] (defScope s__law_doubled) := ⟨rfl, rfl, rfl, by decide +kernel, rfl, by decide +kernel, by decide +kernel⟩
def RowD (n : Nat) (row es : List Nat) : Prop := es.length = row.length ∧ ∀ (y : Nat) e, es[y]? = some e → e < 2 * n ∧ row[y]? = some (e % n)
def DblM (n : Nat) (mv mv2 : List (List Nat)) : Prop := mv2.length = 2 * n ∧ ∀ (j : Nat) r2, mv2[j]? = some r2 → ∃ r, mv[j % n]? = some r ∧ RowD n r r2
theorem dbl_get {α : Type} (l : List α) {j : Nat} (h : j < 2 * l.length) : (l ++ l)[j]? = l[j % l.length]? := by
  by_cases hj : j < l.length
  · rw [List.getElem?_append_left hj, Nat.mod_eq_of_lt hj]
  · rw [List.getElem?_append_right (by omega), Nat.mod_eq_sub_mod (by omega), Nat.mod_eq_of_lt (by omega)]
theorem DblM.mov {k n : Nat} {mv mv2 : List (List Nat)} (m : Mov k n mv) (d : DblM n mv mv2) : Mov k (2 * n) mv2 := by
  refine ⟨by have := m.n0; omega, d.1, fun r2 hr => ?_⟩
  obtain ⟨j, hj⟩ := List.mem_iff_getElem?.mp hr
  obtain ⟨r, h1, h2, h3⟩ := d.2 j r2 hj
  refine ⟨by rw [h2, (m.row r (List.mem_of_getElem? h1)).1], fun x hx => ?_⟩
  obtain ⟨y, hy⟩ := List.mem_iff_getElem?.mp hx
  exact (h3 y x hy).1
theorem dbl_st {k n : Nat} {mv mv2 : List (List Nat)} (m : Mov k n mv) (d : DblM n mv mv2) (k0 : 0 < k) {ns : List Nat} (hn : ∀ x ∈ ns, x < k) : ∀ i, stA mv2 ns i % n = stA mv ns i
  | 0 => Nat.zero_mod n
  | i + 1 => by
    have ih := dbl_st m d k0 hn i
    have hs := (d.mov m).st ns i
    have hx : ns.getD i 0 < k := by
      rw [List.getD_eq_getElem?_getD]
      cases e : ns[i]? with
      | none => simpa using k0
      | some x => exact hn x (List.mem_of_getElem? e)
    have hr2 : mv2[stA mv2 ns i]? = some (mv2.getD (stA mv2 ns i) []) := getD_at (by rw [d.1]; exact hs)
    obtain ⟨r, h1, h2, h3⟩ := d.2 _ _ hr2
    rw [ih] at h1
    have hrl := (m.row r (List.mem_of_getElem? h1)).1
    have he : (mv2.getD (stA mv2 ns i) [])[ns.getD i 0]? = some ((mv2.getD (stA mv2 ns i) []).getD (ns.getD i 0) 0) := getD_at (by omega)
    have h4 := (h3 _ _ he).2
    show (mv2.getD (stA mv2 ns i) []).getD (ns.getD i 0) 0 % n = (mv.getD (stA mv ns i) []).getD (ns.getD i 0) 0
    rw [getD_of h1, getD_of h4]
def tab2 (t : List (List (List Nat))) : List (List (List Nat)) := t.map fun row => row.map fun z => z ++ z
theorem dbl_good {R : Rd} {f2 b2 : List (List Nat)} (g : GoodR R) (hf : R.forth.length ≤ 400) (hb : R.back.length ≤ 400) (df : DblM R.forth.length R.forth f2) (db : DblM R.back.length R.back b2) : GoodR ⟨R.letters, f2, b2, tab2 R.table ++ tab2 R.table⟩ := by
  have e1 := df.1
  have e2 := db.1
  have m1 := df.mov g.fr
  have m2 := db.mov g.br
  rw [← e1] at m1
  rw [← e2] at m2
  refine ⟨g.l0, g.nd, g.l1, by show f2.length ≤ 2000; omega, by show b2.length ≤ 2000; omega, m1, m2, ?_, fun r hr => ?_⟩
  · show (tab2 R.table ++ tab2 R.table).length = f2.length
    rw [List.length_append]
    unfold tab2
    rw [List.length_map, g.tl, e1]
    omega
  · have hr' : r ∈ tab2 R.table := by
      rcases List.mem_append.mp hr with hr | hr
      · exact hr
      · exact hr
    obtain ⟨row, hrow, rfl⟩ := List.mem_map.mp hr'
    obtain ⟨h1, h2⟩ := g.tr row hrow
    refine ⟨by rw [List.length_map]; exact h1, fun s hs => ?_⟩
    obtain ⟨z, hz, rfl⟩ := List.mem_map.mp hs
    show (z ++ z).length = b2.length
    rw [List.length_append, h2 z hz, e2]
    omega
theorem dbl_marks {R : Rd} {f2 b2 : List (List Nat)} (g : GoodR R) (df : DblM R.forth.length R.forth f2) (db : DblM R.back.length R.back b2) {text : List Nat} (ht : ∀ c ∈ text, c ∈ R.letters) :
    marksOf ⟨R.letters, f2, b2, tab2 R.table ++ tab2 R.table⟩ text = marksOf R text := by
  unfold marksOf
  apply List.map_congr_left
  intro i hi
  have hi := List.mem_range.mp hi
  show markAt _ (nums R.letters text) i = markAt R (nums R.letters text) i
  have k0 : 0 < R.letters.length := List.length_pos_iff.mpr g.l0
  have hn := nums_lt ht
  have nl := nums_len R.letters text
  generalize nums R.letters text = ns at hn nl ⊢
  have s1 := dbl_st g.fr df k0 hn i
  have s2 := dbl_st g.br db k0 (ns := ns.reverse) (fun x hx => hn x (List.mem_reverse.mp hx)) (ns.length - (i + 1))
  have t1 := (df.mov g.fr).st ns i
  have t2 := (db.mov g.br).st ns.reverse (ns.length - (i + 1))
  have u1 := g.fr.st ns i
  have u2 := g.br.st ns.reverse (ns.length - (i + 1))
  have hx : ns.getD i 0 < R.letters.length := hn _ (List.mem_of_getElem? (getD_at (d := 0) (by omega)))
  unfold markAt
  show (((tab2 R.table ++ tab2 R.table).getD (stA f2 ns i) []).getD (ns.getD i 0) []).getD (stA b2 ns.reverse (ns.length - (i + 1))) 0 = _
  have hrow : R.table[stA R.forth ns i]? = some (R.table.getD (stA R.forth ns i) []) := getD_at (by rw [g.tl]; exact u1)
  obtain ⟨h1, h2⟩ := g.tr _ (List.mem_of_getElem? hrow)
  have hz : (R.table.getD (stA R.forth ns i) [])[ns.getD i 0]? = some ((R.table.getD (stA R.forth ns i) []).getD (ns.getD i 0) []) := getD_at (by omega)
  have h3 := h2 _ (List.mem_of_getElem? hz)
  have tl : (tab2 R.table).length = R.forth.length := by
    unfold tab2
    rw [List.length_map, g.tl]
  have e1 : (tab2 R.table ++ tab2 R.table)[stA f2 ns i]? = some ((R.table.getD (stA R.forth ns i) []).map fun z => z ++ z) := by
    rw [dbl_get _ (by rw [tl]; exact t1), tl, s1]
    unfold tab2
    rw [List.getElem?_map, hrow]
    rfl
  rw [getD_of e1]
  have e2 : ((R.table.getD (stA R.forth ns i) []).map fun z => z ++ z)[ns.getD i 0]? = some ((R.table.getD (stA R.forth ns i) []).getD (ns.getD i 0) [] ++ (R.table.getD (stA R.forth ns i) []).getD (ns.getD i 0) []) := by
    rw [List.getElem?_map, hz]
    rfl
  rw [getD_of e2]
  generalize (R.table.getD (stA R.forth ns i) []).getD (ns.getD i 0) [] = z at h3 ⊢
  rw [List.getD_eq_getElem?_getD, List.getD_eq_getElem?_getD, dbl_get _ (by rw [h3]; exact t2), h3, s2]
theorem ok__law_doubled (c__law_draw : Cal P w K mg base 1 "_law_draw" spDraw) (F : At K mg "_law_doubled" s__law_doubled) (b_range : mg "range" = none) (b_tuple : mg "tuple" = none) (b_len : mg "len" = none) : Cal P w K mg base 2 "_law_doubled" (spDoubled K) := by
  refine F.cal sc__law_doubled (fun vs H Q E h => ?_) (fun _ _ _ _ _ _ us hl => match us, hl with | [_, _], _ => rfl) (fun f cdv A outer s H vs Q E hr h => ?_)
  · obtain ⟨p, g, x, R, rfl, _⟩ := h
    rfl
  · obtain ⟨p, g, x, R, rfl, hP, hR, hg, hf4, hb4, q⟩ := h
    refine ⟨_, (pss_cons (ps_asg (pv 1) (pg_tup rfl (pgs_cons (pg_name (i := 2) sc__law_doubled.nd rfl (.inl rfl)) (pgs_cons (pg_name (i := 3) sc__law_doubled.nd rfl (.inr rfl)) (pgs_cons (pg_name (i := 4) sc__law_doubled.nd rfl (.inr rfl)) (pgs_cons (pg_name (i := 5) sc__law_doubled.nd rfl (.inl rfl)) pgs_nil))))))
      (pss_cons (ps_set (i := 6) sc__law_doubled.nd rfl (.inl rfl) (pe_lst pa_nil))
      (pss_cons (ps_for PassesOwn.never rfl (pi_range1 (by rfl) b_range (pa_cons pe_int pa_nil)) (pg_name (i := 7) sc__law_doubled.nd rfl (.inl rfl))
      (pss_one (ps_for PassesOwn.never rfl (pi_tup (pv 3)) (pg_name (i := 8) sc__law_doubled.nd rfl (.inl rfl))
      (pss_one (ps_expr (pe_bm PySem.F.plainAttrs_list PySem.F.slot_list_append PySem.F.type_list_append mt_append (pv 6) (pa_cons (pe_callTy call_tupL (by rfl) b_tuple (by decide +kernel) (pa_cons (pe_lc (own := [("state", 11)]) (g := gName 11) (tt := tYes)  rfl sc__law_doubled.nd (pi_tup (pv 8)) (blkOk_by (N := ["pool", "readers", "letters", "forth", "back", "table", "rows", "lap", "row", "others", "texts", "state", "text"]) (sc := defScope s__law_doubled) (by decide +kernel)) (fun _ _ _ _ _ => (pg_name (i := 11) sc__law_doubled.nd rfl (.inl rfl))) (fun _ _ _ _ _ => pts_nil) (fun _ _ _ _ _ => (pe_op op_add (pv 11) (pe_op op_mul (pe_callB (r := zLenQ K) call_lenQ (by rfl) b_len PySem.boot_len (pa_cons (pv 3) pa_nil)) (pe_c c__law_draw hr (by decide) (by rfl) (pa_cons (pv 0) (pa_cons pe_int pa_nil))))))) pa_nil)) pa_nil)))))))
      (pss_cons (ps_set (i := 9) sc__law_doubled.nd rfl (.inl rfl) (pe_lst pa_nil))
      (pss_cons (ps_for PassesOwn.never rfl (pi_range1 (by rfl) b_range (pa_cons pe_int pa_nil)) (pg_name (i := 7) sc__law_doubled.nd rfl (.inl rfl))
      (pss_one (ps_for PassesOwn.never rfl (pi_tup (pv 4)) (pg_name (i := 8) sc__law_doubled.nd rfl (.inl rfl))
      (pss_one (ps_expr (pe_bm PySem.F.plainAttrs_list PySem.F.slot_list_append PySem.F.type_list_append mt_append (pv 9) (pa_cons (pe_callTy call_tupL (by rfl) b_tuple (by decide +kernel) (pa_cons (pe_lc (own := [("state", 11)]) (g := gName 11) (tt := tYes)  rfl sc__law_doubled.nd (pi_tup (pv 8)) (blkOk_by (N := ["pool", "readers", "letters", "forth", "back", "table", "rows", "lap", "row", "others", "texts", "state", "text"]) (sc := defScope s__law_doubled) (by decide +kernel)) (fun _ _ _ _ _ => (pg_name (i := 11) sc__law_doubled.nd rfl (.inl rfl))) (fun _ _ _ _ _ => pts_nil) (fun _ _ _ _ _ => (pe_op op_add (pv 11) (pe_op op_mul (pe_callB (r := zLenQ K) call_lenQ (by rfl) b_len PySem.boot_len (pa_cons (pv 4) pa_nil)) (pe_c c__law_draw hr (by decide) (by rfl) (pa_cons (pv 0) (pa_cons pe_int pa_nil))))))) pa_nil)) pa_nil)))))))
      (pss_cons (ps_setLc (i := 10) (own := [("row", 8)]) (g := gName 8) (tt := tYes) rfl sc__law_doubled.nd rfl rfl (sw_true rfl rfl rfl (by decide +kernel)) (pi_tup (pv 5)) (blkOk_by (N := ["pool", "readers", "letters", "forth", "back", "table", "rows", "lap", "row", "others", "texts", "state", "text"]) (sc := defScope s__law_doubled) (by decide +kernel)) (fun _ _ _ _ _ => (pg_name (i := 8) sc__law_doubled.nd rfl (.inl rfl))) (fun _ _ _ _ _ => pts_nil) (fun _ _ _ _ _ => (pe_callTy (r := zTupL K) call_tupL (by rfl) b_tuple (by decide +kernel) (pa_cons (pe_lc (own := [("text", 12)]) (g := gName 12) (tt := tYes) (wi := iTup K _)  rfl sc__law_doubled.nd (pi_tup (pv 8)) (blkOk_by (N := ["pool", "readers", "letters", "forth", "back", "table", "rows", "lap", "row", "others", "texts", "state", "text"]) (by kernel_rfl)) (fun _ _ _ _ _ => (pg_name (i := 12) sc__law_doubled.nd rfl (.inl rfl))) (fun _ _ _ _ _ => pts_nil) (fun _ _ _ _ _ => (pe_op op_addS (pv 12) (pv 12)))) pa_nil))))
      (pss_one (ps_ret (pe_tup (pa_cons (pv 2) (pa_cons (pe_callTy call_tupL (by rfl) b_tuple (by decide +kernel) (pa_cons (pv 6) pa_nil)) (pa_cons (pe_callTy call_tupL (by rfl) b_tuple (by decide +kernel) (pa_cons (pv 9) pa_nil)) (pa_cons (pe_callTy call_tupL (by rfl) b_tuple (by decide +kernel) (pa_cons (pe_op op_cat (pv 10) (pv 10)) pa_nil)) pa_nil))))))))))))), ?_⟩
    refine st_is (σ' := start _ _) (σ := [some (.ref p), some (.ref x), none, none, none, none, none, none, none, none, none, none, none]) rfl ?_
    try dsimp only [cxOf, Cx.nox, Cx.wish]
    obtain ⟨pf, pb, pt, hx, hft, hbt, htt⟩ := hR
    obtain ⟨xf, hf1, hf2, hf3⟩ := id hft
    obtain ⟨xb, hb1, hb2, hb3⟩ := id hbt
    obtain ⟨xt, ht1, ht2, ht3⟩ := id htt
    walk_at "go"
    refine w_new (by simp) fun c hc => ?_
    have hcp := hP.ne1 hc
    have hcg := hP.ne2 hc
    have lf := hg.fr.n0
    have lb := hg.br.n0
    have l6 := hg.l1
    walk_at "go"
    refine w_rng1 (by omega) (by omega) (fun a σ H' => ∃ v7 v8, ∃ (xs : List V) (rows : List (List Nat)), σ = [some (.ref p), some (.ref x), some (vS R.letters), some (.ref pf), some (.ref pb), some (.ref pt), some (.ref c), v7, v8, none, none, none, none] ∧
        rows.length = a * R.forth.length ∧ (∀ (j : Nat) r2, rows[j]? = some r2 → ∃ r, R.forth[j % R.forth.length]? = some r ∧ RowD R.forth.length r r2) ∧ Rows K H' vI xs rows ∧ H' c = some (.lst xs) ∧ Pool2 p g H' ∧ Kp p g H H' ∧ Tx H H')
      ⟨_, _, [], [], rfl, by rw [Nat.zero_mul]; rfl, (fun j r e => by simp at e), Rows.nil, upd_same, hP.new hc, Kp.of_same (same_new hc), Tx.new (Tx.refl _) hc⟩ ?_ ?_
    · rintro a σ H1 hi ⟨v7, v8, xs, rows, rfl, hrl, hdb, hR, hcx, hP1, kp1, tx1⟩
      walk_at "go"
      refine w_tupQ (tx1.sqT hf1) (fun i σ H' => ∃ v8, ∃ (xs : List V) (rows : List (List Nat)), σ = [some (.ref p), some (.ref x), some (vS R.letters), some (.ref pf), some (.ref pb), some (.ref pt), some (.ref c), some (vI a), v8, none, none, none, none] ∧
          rows.length = a * R.forth.length + i ∧ (∀ (j : Nat) r2, rows[j]? = some r2 → ∃ r, R.forth[j % R.forth.length]? = some r ∧ RowD R.forth.length r r2) ∧ Rows K H' vI xs rows ∧ H' c = some (.lst xs) ∧ Pool2 p g H' ∧ Kp p g H H' ∧ Tx H H')
        ⟨_, xs, rows, rfl, hrl, hdb, hR, hcx, hP1, kp1, tx1⟩ (fun i σ H' _ ⟨_, _, _, _, _, _, _, _, _, _, h⟩ => h.sqT hf1) ?_ ?_
      · rintro i y σ H2 hy ⟨v8, xs, rows, rfl, hrl, hdb, hR, hcx, hP2, kp2, tx2⟩
        have hil := (List.getElem?_eq_some_iff.mp hy).1
        have hil2 : i < R.forth.length := by omega
        have hxl := hR.1
        have hbig : a * R.forth.length ≤ 400 := by
          have h1 : a ≤ 1 := by omega
          have := Nat.mul_le_mul h1 hf4
          omega
        obtain ⟨fr, hfr⟩ : ∃ fr, R.forth[i]? = some fr := ⟨_, List.getElem?_eq_getElem hil2⟩
        obtain ⟨q1, hq1, hq2⟩ := hf3 i fr hfr
        rw [hq1] at hy
        have ey := Option.some.inj hy
        subst ey
        obtain ⟨hfl, hfe⟩ := hg.fr.row fr (List.mem_of_getElem? hfr)
        walk_at "go"
        refine w_lcTQ (tx2.sqT hq2) (fun Dl j H' => ∃ es : List Nat, es.length = j ∧ (∀ (y : Nat) e, es[y]? = some e → e < 2 * R.forth.length ∧ fr[y]? = some (e % R.forth.length)) ∧ H' Dl = some (.lst (es.map vI)) ∧ Pool2 p g H' ∧ Kp p g H2 H')
          (fun Dl hD => ⟨[], rfl, (fun y e h => by simp at h), upd_same, hP2.new hD, Kp.of_same (same_new hD)⟩) (fun Dl j H' _ ⟨_, _, _, _, _, h⟩ => (tx2.trans (h.tx2 hP2)).sqT hq2) ?_ ?_
        · rintro Dl j z H' hD hj ⟨es, hel, hes, h1, hP', kp'⟩
          obtain ⟨s, hs, rfl⟩ := map_at hj
          have hjl := (List.getElem?_eq_some_iff.mp hs).1
          have hsn := hfe s (List.mem_of_getElem? hs)
          have hDp := hP2.ne1 hD
          have hDg := hP2.ne2 hD
          have txf := tx2.trans (kp'.tx2 hP2)
          walk_at "go"
          refine ⟨rfl, ?_⟩
          walk_at "go"
          refine ⟨p, g, 2, rfl, hP', by omega, by omega, fun H3 r hr hP3 kp3 => ?_⟩
          rw [hf2]
          walk_at "go"
          have ev : (s : Int) + (R.forth.length : Int) * (r : Int) = ((s + R.forth.length * r : Nat) : Int) := by rw [Int.natCast_add, Int.natCast_mul]
          rw [ev]
          refine w_acc (kp3 _ _ hDp hDg h1) (by rw [List.length_map]; omega) ⟨es ++ [s + R.forth.length * r], by rw [List.length_append, hel]; rfl, fun y e he => ?_, by rw [upd_same, List.map_append]; rfl, hP3.lst hDp hDg, Kp.mut (kp'.trans kp3) hD⟩
          by_cases hy : y < es.length
          · rw [List.getElem?_append_left hy] at he
            exact hes y e he
          · have hy2 : y = es.length := by
              have := (List.getElem?_eq_some_iff.mp he).1
              rw [List.length_append, List.length_singleton] at this
              omega
            subst hy2
            rw [List.getElem?_append_right (Nat.le_refl _), Nat.sub_self] at he
            have he' : s + R.forth.length * r = e := Option.some.inj he
            subst he'
            refine ⟨?_, ?_⟩
            · have h1 : r ≤ 1 := by omega
              have := Nat.mul_le_mul (Nat.le_refl R.forth.length) h1
              omega
            · rw [hel, hs, Nat.add_mul_mod_self_left, Nat.mod_eq_of_lt hsn]
        rintro Dl H3 hD ⟨es, hel, hes, h1, hP3, kp3⟩
        rw [List.length_map] at hel
        have hc3 := kp3 _ _ hcp hcg hcx
        have hll : xs.length < 16777216 := by omega
        walk_at "go"
        refine w_tupL (SqL.of h1) fun t ht => ?_
        have hc4 : upd H3 t (.tup (es.map vI)) c = some (.lst xs) := get_ne (ne_of_none hc3 ht) hc3
        have tx4 : Tx H2 (upd (upd H3 t (.tup (es.map vI))) c (.lst (xs ++ [.ref t]))) := Tx.lst (Tx.new (kp3.tx2 hP2) ht) hc4
        walk_at "go"
        refine ⟨_, xs ++ [.ref t], rows ++ [es], rfl, by rw [List.length_append, hrl]; rfl, fun j r2 e => ?_, (hR.tx tx4).snoc (SqT.of (get_ne (ne_of_none hc3 ht).symm upd_same)), upd_same, (hP3.new ht).lst hcp hcg, Kp.mut (Kp.new (kp2.trans kp3) ht) hc, tx2.trans tx4⟩
        by_cases hj : j < rows.length
        · rw [List.getElem?_append_left hj] at e
          exact hdb j r2 e
        · have hj2 : j = rows.length := by
            have := (List.getElem?_eq_some_iff.mp e).1
            rw [List.length_append, List.length_singleton] at this
            omega
          subst hj2
          rw [List.getElem?_append_right (Nat.le_refl _), Nat.sub_self] at e
          have e' : es = r2 := Option.some.inj e
          subst e'
          refine ⟨fr, ?_, hel, hes⟩
          rw [hrl, Nat.mul_comm, Nat.mul_add_mod, Nat.mod_eq_of_lt hil2]
          exact hfr
      · rintro σ H2 ⟨v8, xs, rows, rfl, hrl, hdb, hR, hcx, hP2, kp2, tx2⟩
        refine ⟨_, _, xs, rows, rfl, ?_, hdb, hR, hcx, hP2, kp2, tx2⟩
        rw [hrl, hf2, Nat.add_mul, Nat.one_mul]
    rintro σ H1 ⟨v7, v8, xs, rows, rfl, hrl, hdb, hR, hcx, hP1, kp1, tx1⟩
    have hrl2 : rows.length = 2 * R.forth.length := hrl
    clear hrl
    walk_at "go"
    refine w_new (by simp) fun d hd => ?_
    have hdp := hP1.ne1 hd
    have hdg := hP1.ne2 hd
    have hd0 := Kp.fresh kp1 hdp hdg hd
    have hcd : c ≠ d := ne_of_none hcx hd
    have txd : Tx H1 (upd H1 d (.lst [])) := Tx.new (Tx.refl _) hd
    walk_at "go"
    refine w_rng1 (by omega) (by omega) (fun a σ H' => ∃ v7 v8, ∃ (ys : List V) (rowb : List (List Nat)), σ = [some (.ref p), some (.ref x), some (vS R.letters), some (.ref pf), some (.ref pb), some (.ref pt), some (.ref c), v7, v8, some (.ref d), none, none, none] ∧
        rowb.length = a * R.back.length ∧ (∀ (j : Nat) r2, rowb[j]? = some r2 → ∃ r, R.back[j % R.back.length]? = some r ∧ RowD R.back.length r r2) ∧ Rows K H' vI ys rowb ∧ H' d = some (.lst ys) ∧ H' c = some (.lst xs) ∧ Pool2 p g H' ∧ Kp p g H H' ∧ Tx H1 H')
      ⟨_, _, [], [], rfl, by rw [Nat.zero_mul]; rfl, (fun j r e => by simp at e), Rows.nil, upd_same, get_ne hcd hcx, hP1.new hd, Kp.new kp1 hd, txd⟩ ?_ ?_
    · rintro a σ H2 hi ⟨v7, v8, ys, rowb, rfl, hrl, hdb2, hR2, hdx, hcx2, hP2, kp2, tx2⟩
      walk_at "go"
      refine w_tupQ ((tx1.trans tx2).sqT hb1) (fun i σ H' => ∃ v8, ∃ (ys : List V) (rowb : List (List Nat)), σ = [some (.ref p), some (.ref x), some (vS R.letters), some (.ref pf), some (.ref pb), some (.ref pt), some (.ref c), some (vI a), v8, some (.ref d), none, none, none] ∧
          rowb.length = a * R.back.length + i ∧ (∀ (j : Nat) r2, rowb[j]? = some r2 → ∃ r, R.back[j % R.back.length]? = some r ∧ RowD R.back.length r r2) ∧ Rows K H' vI ys rowb ∧ H' d = some (.lst ys) ∧ H' c = some (.lst xs) ∧ Pool2 p g H' ∧ Kp p g H H' ∧ Tx H1 H')
        ⟨_, ys, rowb, rfl, hrl, hdb2, hR2, hdx, hcx2, hP2, kp2, tx2⟩ (fun i σ H' _ ⟨_, _, _, _, _, _, _, _, _, _, _, h⟩ => (tx1.trans h).sqT hb1) ?_ ?_
      · rintro i y σ H3 hy ⟨v8, ys, rowb, rfl, hrl, hdb2, hR2, hdx, hcx3, hP3, kp3, tx3⟩
        have hil := (List.getElem?_eq_some_iff.mp hy).1
        have hil2 : i < R.back.length := by omega
        have hxl := hR2.1
        have hbig : a * R.back.length ≤ 400 := by
          have h1 : a ≤ 1 := by omega
          have := Nat.mul_le_mul h1 hb4
          omega
        obtain ⟨fr, hfr⟩ : ∃ fr, R.back[i]? = some fr := ⟨_, List.getElem?_eq_getElem hil2⟩
        obtain ⟨q1, hq1, hq2⟩ := hb3 i fr hfr
        rw [hq1] at hy
        have ey := Option.some.inj hy
        subst ey
        obtain ⟨hfl, hfe⟩ := hg.br.row fr (List.mem_of_getElem? hfr)
        have tx13 := tx1.trans tx3
        walk_at "go"
        refine w_lcTQ (tx13.sqT hq2) (fun Dl j H' => ∃ es : List Nat, es.length = j ∧ (∀ (y : Nat) e, es[y]? = some e → e < 2 * R.back.length ∧ fr[y]? = some (e % R.back.length)) ∧ H' Dl = some (.lst (es.map vI)) ∧ Pool2 p g H' ∧ Kp p g H3 H')
          (fun Dl hD => ⟨[], rfl, (fun y e h => by simp at h), upd_same, hP3.new hD, Kp.of_same (same_new hD)⟩) (fun Dl j H' _ ⟨_, _, _, _, _, h⟩ => (tx13.trans (h.tx2 hP3)).sqT hq2) ?_ ?_
        · rintro Dl j z H' hD hj ⟨es, hel, hes, h1, hP', kp'⟩
          obtain ⟨s, hs, rfl⟩ := map_at hj
          have hjl := (List.getElem?_eq_some_iff.mp hs).1
          have hsn := hfe s (List.mem_of_getElem? hs)
          have hDp := hP3.ne1 hD
          have hDg := hP3.ne2 hD
          have txf := tx13.trans (kp'.tx2 hP3)
          walk_at "go"
          refine ⟨rfl, ?_⟩
          walk_at "go"
          refine ⟨p, g, 2, rfl, hP', by omega, by omega, fun H4 r hr hP4 kp4 => ?_⟩
          rw [hb2]
          walk_at "go"
          have ev : (s : Int) + (R.back.length : Int) * (r : Int) = ((s + R.back.length * r : Nat) : Int) := by rw [Int.natCast_add, Int.natCast_mul]
          rw [ev]
          refine w_acc (kp4 _ _ hDp hDg h1) (by rw [List.length_map]; omega) ⟨es ++ [s + R.back.length * r], by rw [List.length_append, hel]; rfl, fun y e he => ?_, by rw [upd_same, List.map_append]; rfl, hP4.lst hDp hDg, Kp.mut (kp'.trans kp4) hD⟩
          by_cases hy : y < es.length
          · rw [List.getElem?_append_left hy] at he
            exact hes y e he
          · have hy2 : y = es.length := by
              have := (List.getElem?_eq_some_iff.mp he).1
              rw [List.length_append, List.length_singleton] at this
              omega
            subst hy2
            rw [List.getElem?_append_right (Nat.le_refl _), Nat.sub_self] at he
            have he' : s + R.back.length * r = e := Option.some.inj he
            subst he'
            refine ⟨?_, ?_⟩
            · have h1 : r ≤ 1 := by omega
              have := Nat.mul_le_mul (Nat.le_refl R.back.length) h1
              omega
            · rw [hel, hs, Nat.add_mul_mod_self_left, Nat.mod_eq_of_lt hsn]
        rintro Dl H4 hD ⟨es, hel, hes, h1, hP4, kp4⟩
        rw [List.length_map] at hel
        have hd3 := kp4 _ _ hdp hdg hdx
        have hc3 := kp4 _ _ hcp hcg hcx3
        have hll : ys.length < 16777216 := by omega
        walk_at "go"
        refine w_tupL (SqL.of h1) fun t ht => ?_
        have hd4 : upd H4 t (.tup (es.map vI)) d = some (.lst ys) := get_ne (ne_of_none hd3 ht) hd3
        have tx4 : Tx H3 (upd (upd H4 t (.tup (es.map vI))) d (.lst (ys ++ [.ref t]))) := Tx.lst (Tx.new (kp4.tx2 hP3) ht) hd4
        walk_at "go"
        refine ⟨_, ys ++ [.ref t], rowb ++ [es], rfl, by rw [List.length_append, hrl]; rfl, fun j r2 e => ?_, (hR2.tx tx4).snoc (SqT.of (get_ne (ne_of_none hd3 ht).symm upd_same)), upd_same, get_ne hcd (get_ne (ne_of_none hc3 ht) hc3), (hP4.new ht).lst hdp hdg, Kp.mut (Kp.new (kp3.trans kp4) ht) hd0, tx3.trans tx4⟩
        by_cases hj : j < rowb.length
        · rw [List.getElem?_append_left hj] at e
          exact hdb2 j r2 e
        · have hj2 : j = rowb.length := by
            have := (List.getElem?_eq_some_iff.mp e).1
            rw [List.length_append, List.length_singleton] at this
            omega
          subst hj2
          rw [List.getElem?_append_right (Nat.le_refl _), Nat.sub_self] at e
          have e' : es = r2 := Option.some.inj e
          subst e'
          refine ⟨fr, ?_, hel, hes⟩
          rw [hrl, Nat.mul_comm, Nat.mul_add_mod, Nat.mod_eq_of_lt hil2]
          exact hfr
      · rintro σ H3 ⟨v8, ys, rowb, rfl, hrl, hdb2, hR2, hdx, hcx3, hP3, kp3, tx3⟩
        refine ⟨_, _, ys, rowb, rfl, ?_, hdb2, hR2, hdx, hcx3, hP3, kp3, tx3⟩
        rw [hrl, hb2, Nat.add_mul, Nat.one_mul]
    rintro σ H2 ⟨v7', v8', ys, rowb, rfl, hrl, hdb2, hR2, hdx, hcx2, hP2, kp2, tx2⟩
    have hrb2 : rowb.length = 2 * R.back.length := hrl
    clear hrl
    have hR1 := hR.tx tx2
    have tx12 := tx1.trans tx2
    walk_at "go"
    refine w_lcTQ (tx12.sqT ht1) (fun Dl i H' => ∃ (zs : List V) (rt : List (List (List Nat))), rt = tab2 (R.table.take i) ∧ Rows K H' vS zs rt ∧ H' Dl = some (.lst zs) ∧ Same H2 H') (fun Dl hD => ⟨[], [], rfl, Rows.nil, upd_same, same_new hD⟩) (fun Dl i H' _ ⟨_, _, _, _, _, h⟩ => (tx12.trans (Tx.of_same h)).sqT ht1) ?_ ?_
    · rintro Dl i y H' hD hy ⟨zs, rt, hrt, hT, hz, sm⟩
      have hil := (List.getElem?_eq_some_iff.mp hy).1
      have hil2 : i < R.table.length := by omega
      have htl := hg.tl
      obtain ⟨tr, htr⟩ : ∃ tr, R.table[i]? = some tr := ⟨_, List.getElem?_eq_getElem hil2⟩
      obtain ⟨q1, hq1, hq2⟩ := ht3 i tr htr
      rw [hq1] at hy
      have ey := Option.some.inj hy
      subst ey
      obtain ⟨htl1, htl2⟩ := hg.tr tr (List.mem_of_getElem? htr)
      have txi := tx12.trans (Tx.of_same sm)
      have hzl := hT.1
      have hrtl : rt.length = i := by
        rw [hrt]
        unfold tab2
        rw [List.length_map, List.length_take]
        omega
      walk_at "go"
      refine ⟨rfl, ?_⟩
      walk_at "go"
      refine w_lcTQ (txi.sqT hq2) (fun El j H'' => H'' El = some (.lst (((tr.take j).map fun z => z ++ z).map vS)) ∧ Same H' H'') (fun El hE => ⟨upd_same, same_new hE⟩) (fun El j H'' _ ⟨_, h⟩ => (txi.trans (Tx.of_same h)).sqT hq2) ?_ ?_
      · rintro El j u H'' hE hu ⟨he, sm'⟩
        obtain ⟨z, hz', rfl⟩ := map_at hu
        have hjl := (List.getElem?_eq_some_iff.mp hz').1
        have hzb := htl2 z (List.mem_of_getElem? hz')
        walk_at "go"
        refine ⟨rfl, ?_⟩
        walk_at "go"
        refine w_acc he (by rw [List.length_map, List.length_map, List.length_take]; omega) ⟨?_, Same.mut sm' hE⟩
        rw [upd_same, List.take_succ_eq_append_getElem hjl, (List.getElem?_eq_some_iff.mp hz').2, List.map_append, List.map_append]
        rfl
      rintro El H3 hE ⟨he, sm3⟩
      rw [List.length_map, List.take_length] at he
      have hz3 := sm3 _ _ hz
      walk_at "go"
      refine w_tupL (SqL.of he) fun t ht => ?_
      have hz4 : upd H3 t (.tup ((tr.map fun z => z ++ z).map vS)) Dl = some (.lst zs) := get_ne (ne_of_none hz3 ht) hz3
      have tx4 : Tx H' (upd (upd H3 t (.tup ((tr.map fun z => z ++ z).map vS))) Dl (.lst (zs ++ [.ref t]))) := Tx.lst (Tx.new (Tx.of_same sm3) ht) hz4
      walk_at "go"
      refine w_acc hz4 (by omega) ⟨zs ++ [.ref t], rt ++ [tr.map fun z => z ++ z], ?_, (hT.tx tx4).snoc (SqT.of (get_ne (ne_of_none hz3 ht).symm upd_same)), upd_same, Same.mut (Same.new' (sm.trans sm3) ht) hD⟩
      rw [hrt, List.take_succ_eq_append_getElem hil2, (List.getElem?_eq_some_iff.mp htr).2]
      unfold tab2
      rw [List.map_append]
      rfl
    rintro Dl H3 hD ⟨zs, rt, hrt, hT, hz, sm3⟩
    rw [ht2, List.take_length] at hrt
    have htl := hg.tl
    have hzl := hT.1
    have hrtl : rt.length = R.table.length := by
      rw [hrt]
      unfold tab2
      rw [List.length_map]
    have hc3 := sm3 _ _ hcx2
    have hd3 := sm3 _ _ hdx
    have hR3 := hR1.tx (Tx.of_same sm3)
    have hB3 := hR2.tx (Tx.of_same sm3)
    walk_at "go"
    refine w_tupL (SqL.of hc3) fun a1 ha1 => ?_
    have hd4 : upd H3 a1 (.tup xs) d = some (.lst ys) := get_ne (ne_of_none hd3 ha1) hd3
    have hz4 : upd H3 a1 (.tup xs) Dl = some (.lst zs) := get_ne (ne_of_none hz ha1) hz
    walk_at "go"
    refine w_tupL (SqL.of hd4) fun a2 ha2 => ?_
    have hz5 : upd (upd H3 a1 (.tup xs)) a2 (.tup ys) Dl = some (.lst zs) := get_ne (ne_of_none hz4 ha2) hz4
    walk_at "go"
    refine w_catL hz5 hz5 (by omega) fun a3 ha3 => ?_
    walk_at "go"
    refine w_tupL (SqL.of upd_same) fun a4 ha4 => ?_
    walk_at "go"
    refine w_new (by simp) fun y hy => ?_
    have sm9 : Same H3 (upd (upd (upd (upd (upd H3 a1 (.tup xs)) a2 (.tup ys)) a3 (.lst (zs ++ zs))) a4 (.tup (zs ++ zs))) y (.tup [vS R.letters, .ref a1, .ref a2, .ref a4])) := Same.new' (Same.new' (Same.new' (Same.new' (same_new ha1) ha2) ha3) ha4) hy
    have s1 : upd (upd (upd (upd (upd H3 a1 (.tup xs)) a2 (.tup ys)) a3 (.lst (zs ++ zs))) a4 (.tup (zs ++ zs))) y (.tup [vS R.letters, .ref a1, .ref a2, .ref a4]) a1 = some (.tup xs) := by
      have b0 : upd H3 a1 (.tup xs) a1 = some (.tup xs) := upd_same
      have b1 := get_ne (o := HO.tup ys) (ne_of_none b0 ha2) b0
      have b2 := get_ne (o := HO.lst (zs ++ zs)) (ne_of_none b1 ha3) b1
      have b3 := get_ne (o := HO.tup (zs ++ zs)) (ne_of_none b2 ha4) b2
      exact get_ne (ne_of_none b3 hy) b3
    have s2 : upd (upd (upd (upd (upd H3 a1 (.tup xs)) a2 (.tup ys)) a3 (.lst (zs ++ zs))) a4 (.tup (zs ++ zs))) y (.tup [vS R.letters, .ref a1, .ref a2, .ref a4]) a2 = some (.tup ys) := by
      have b1 : upd (upd H3 a1 (.tup xs)) a2 (.tup ys) a2 = some (.tup ys) := upd_same
      have b2 := get_ne (o := HO.lst (zs ++ zs)) (ne_of_none b1 ha3) b1
      have b3 := get_ne (o := HO.tup (zs ++ zs)) (ne_of_none b2 ha4) b2
      exact get_ne (ne_of_none b3 hy) b3
    have s3 : upd (upd (upd (upd (upd H3 a1 (.tup xs)) a2 (.tup ys)) a3 (.lst (zs ++ zs))) a4 (.tup (zs ++ zs))) y (.tup [vS R.letters, .ref a1, .ref a2, .ref a4]) a4 = some (.tup (zs ++ zs)) := get_ne (ne_of_none upd_same hy) upd_same
    have tx9 := Tx.of_same sm9
    have hT9 : Rows K (upd (upd (upd (upd (upd H3 a1 (.tup xs)) a2 (.tup ys)) a3 (.lst (zs ++ zs))) a4 (.tup (zs ++ zs))) y (.tup [vS R.letters, .ref a1, .ref a2, .ref a4])) vS (zs ++ zs) (tab2 R.table ++ tab2 R.table) := by
      have hT' := hT.tx tx9
      rw [hrt] at hT'
      refine ⟨by rw [List.length_append, List.length_append, hT'.1], fun i r e => ?_⟩
      by_cases hi : i < (tab2 R.table).length
      · rw [List.getElem?_append_left hi] at e
        obtain ⟨q, e1, e2⟩ := hT'.2 i r e
        exact ⟨q, by rw [List.getElem?_append_left (by rw [hT'.1]; exact hi)]; exact e1, e2⟩
      · rw [List.getElem?_append_right (by omega)] at e
        obtain ⟨q, e1, e2⟩ := hT'.2 _ r e
        exact ⟨q, by rw [List.getElem?_append_right (by rw [hT'.1]; omega), hT'.1]; exact e1, e2⟩
    have df : DblM R.forth.length R.forth rows := ⟨hrl2, hdb⟩
    have db : DblM R.back.length R.back rowb := ⟨hrb2, hdb2⟩
    exact q _ ⟨R.letters, rows, rowb, tab2 R.table ++ tab2 R.table⟩ y (dbl_good hg hf4 hb4 df db) rfl (fun text ht => dbl_marks hg df db ht)
      ⟨a1, a2, a4, SqT.of upd_same, (hR3.tx tx9).tab (SqT.of s1), (hB3.tx tx9).tab (SqT.of s2), hT9.tab (SqT.of s3)⟩ ((hP2.same sm3).same sm9) ((kp2.trans (Kp.of_same sm3)).trans (Kp.of_same sm9))
abbrev s__law_along : Stmt := topS 18
theorem sc__law_along : FnScope ["moves", "letters", "text", "state", "states", "sign"] ["moves", "letters", "text"] (defScope s__law_along) := ⟨rfl, rfl, rfl, by decide +kernel, rfl, by decide +kernel, by decide +kernel⟩
theorem ok__law_along (F : At K mg "_law_along" s__law_along) : Cal P w K mg base 1 "_law_along" (spLAlong K) := by
  refine F.cal sc__law_along (fun vs H Q E h => ?_) (fun _ _ _ _ _ _ us hl => match us, hl with | [_, _, _], _ => rfl) (fun f cdv A outer s H vs Q E hr h => ?_)
  · obtain ⟨a, n, mv, l, text, rfl, _⟩ := h
    rfl
  · obtain ⟨a, n, mv, l, text, rfl, ⟨xs, ha, hxl, hrow⟩, hm, ⟨htl, htz⟩, q⟩ := h
    refine ⟨_, (pss_cons (ps_set (i := 3) sc__law_along.nd rfl (.inl rfl) pe_int)
      (pss_cons (ps_set (i := 4) sc__law_along.nd rfl (.inl rfl) (pe_lst (pa_cons pe_int pa_nil)))
      (pss_cons (ps_for PassesOwn.never rfl (pi_str (pv 2)) (pg_name (i := 5) sc__law_along.nd rfl (.inl rfl))
      (pss_cons (ps_set (i := 3) sc__law_along.nd rfl (.inl rfl) (pe_ix ix_tup (pe_ix ix_tup (pv 0) (pv 3) (fun _ _ => rfl)) (pe_m1 PySem.F.slot_str_find PySem.F.type_str_find mt_find1 (pv 1) (pv 5)) (fun _ _ => rfl)))
      (pss_one (ps_expr (pe_bm PySem.F.plainAttrs_list PySem.F.slot_list_append PySem.F.type_list_append mt_append (pv 4) (pa_cons (pv 3) pa_nil))))))
      (pss_one (ps_ret (pv 4)))))), ?_⟩
    refine st_is (σ' := start _ _) (σ := [some (.ref a), some (vS l), some (vS text), none, none, none]) rfl ?_
    try dsimp only [cxOf, Cx.nox, Cx.wish]
    walk_at "go"
    refine w_new (by simp) fun d hd => ?_
    walk_at "go"
    refine w_chrQ (fun i σ H' => ∃ v, σ = [some (.ref a), some (vS l), some (vS text), some (vI (stA mv (nums l text) i)), some (.ref d), v] ∧ H' d = some (.lst (((List.range (i + 1)).map (stA mv (nums l text))).map vI)) ∧ Same H H')
      ⟨_, rfl, upd_same, same_new hd⟩ ?_ ?_
    · rintro i c σ H' hi ⟨v, rfl, h1, sm⟩
      have hil := (List.getElem?_eq_some_iff.mp hi).1
      have hc := htl c (List.mem_of_getElem? hi)
      have hx := nums_at (l := l) hi
      have hs := hm.st (nums l text) i
      obtain ⟨r, hr⟩ : ∃ r, mv[stA mv (nums l text) i]? = some r := ⟨_, List.getElem?_eq_getElem (by rw [hm.len]; exact hs)⟩
      obtain ⟨p, hp1, hp2⟩ := hrow _ r hr
      have hrl := (hm.row r (List.mem_of_getElem? hr)).1
      have hxk := List.idxOf_lt_length_of_mem hc
      have hro := getD_at (xs := r) (i := l.idxOf c) (d := 0) (by omega)
      have tx := Tx.of_same sm
      have hll : (((List.range (i + 1)).map (stA mv (nums l text))).map vI).length < 16777216 := by rw [List.length_map, List.length_map, List.length_range]; omega
      have e : stA mv (nums l text) (i + 1) = r.getD (l.idxOf c) 0 := by
        show (mv.getD _ []).getD _ 0 = _
        rw [getD_of hr, getD_of hx]
      walk_at "go"
      refine w_find1 hc ?_
      walk_at "go"
      refine w_ixT (tx.sqT hp2) (atI_nat (at_map hro)) ?_
      walk_at "go"
      refine ⟨some (vS [c]), ?_, ?_, Same.mut sm hd⟩
      · rw [e]
        rfl
      · rw [upd_same, List.range_succ (n := i + 1), List.map_append, List.map_append, ← e]
        rfl
    · rintro σ H' ⟨v, rfl, h1, sm⟩
      rw [← nums_len l text] at h1
      walk_at "go"
      exact q _ _ hd sm h1
abbrev s__law_due : Stmt := topS 19
theorem sc__law_due : FnScope ["readers", "text", "letters", "forth", "back", "table", "ahead", "behind", "marks", "at"] ["readers", "text"] (defScope s__law_due) := ⟨rfl, rfl, rfl, by decide +kernel, rfl, by decide +kernel, by decide +kernel⟩
theorem ok__law_due (c__law_along : Cal P w K mg base 1 "_law_along" (spLAlong K)) (F : At K mg "_law_due" s__law_due) (b_len : mg "len" = none) (b_range : mg "range" = none) : Cal P w K mg base 2 "_law_due" (spDue K) := by
  refine F.cal sc__law_due (fun vs H Q E h => ?_) (fun _ _ _ _ _ _ us hl => match us, hl with | [_, _], _ => rfl) (fun f cdv A outer s H vs Q E hr h => ?_)
  · obtain ⟨x, R, text, rfl, _⟩ := h
    rfl
  · obtain ⟨x, R, text, rfl, hR, hg, ht, q⟩ := h
    refine ⟨_, (pss_cons (ps_asg (pv 0) (pg_tup rfl (pgs_cons (pg_name (i := 2) sc__law_due.nd rfl (.inl rfl)) (pgs_cons (pg_name (i := 3) sc__law_due.nd rfl (.inl rfl)) (pgs_cons (pg_name (i := 4) sc__law_due.nd rfl (.inl rfl)) (pgs_cons (pg_name (i := 5) sc__law_due.nd rfl (.inl rfl)) pgs_nil))))))
      (pss_cons (ps_set (i := 6) sc__law_due.nd rfl (.inl rfl) (pe_c c__law_along hr (by decide) (by rfl) (pa_cons (pv 3) (pa_cons (pv 2) (pa_cons (pv 1) pa_nil)))))
      (pss_cons (ps_set (i := 7) sc__law_due.nd rfl (.inl rfl) (pe_revL (pe_c c__law_along hr (by decide) (by rfl) (pa_cons (pv 4) (pa_cons (pv 2) (pa_cons (pe_revS (pv 1)) pa_nil))))))
      (pss_cons (ps_set (i := 8) sc__law_due.nd rfl (.inl rfl) (pe_lst pa_nil))
      (pss_cons (ps_for PassesOwn.never rfl (pi_range1 (by rfl) b_range (pa_cons (pe_callB call_lenS (by rfl) b_len PySem.boot_len (pa_cons (pv 1) pa_nil)) pa_nil)) (pg_name (i := 9) sc__law_due.nd rfl (.inl rfl))
      (pss_one (ps_expr (pe_bm PySem.F.plainAttrs_list PySem.F.slot_list_append PySem.F.type_list_append mt_append (pv 8) (pa_cons (pe_ix ix_S (pe_ix ix_tup (pe_ix ix_tup (pv 5) (pe_ix ix_list (pv 6) (pv 9) (fun _ _ => rfl)) (fun _ _ => rfl)) (pe_m1 PySem.F.slot_str_find PySem.F.type_str_find mt_find1 (pv 2) (pe_ix ix_S (pv 1) (pv 9) (fun _ _ => rfl))) (fun _ _ => rfl)) (pe_ix ix_list (pv 7) (pe_op op_add (pv 9) pe_int) (fun _ _ => rfl)) (fun _ _ => rfl)) pa_nil)))))
      (pss_one (ps_ret (pe_lst (pa_cons (pv 6) (pa_cons (pv 7) (pa_cons (pe_m1 PySem.F.slot_str_join PySem.F.type_str_join mt_join0 (pe_strL [] (by decide +kernel)) (pv 8)) pa_nil))))))))))), ?_⟩
    refine st_is (σ' := start _ _) (σ := [some (.ref x), some (vS text), none, none, none, none, none, none, none, none]) rfl ?_
    try dsimp only [cxOf, Cx.nox, Cx.wish]
    obtain ⟨pf, pb, pt, ha, hf, hb, htb⟩ := hR
    have l1 := hg.l1
    have nl := nums_len R.letters text
    have tz := ht.2
    walk_at "go"
    refine ⟨pf, _, R.forth, R.letters, text, rfl, hf, hg.fr, ht, fun H1 d hd0 sm1 hd => ?_⟩
    walk_at "go"
    refine ⟨pb, _, R.back, R.letters, text.reverse, rfl, hb.tx (Tx.of_same sm1), hg.br, ⟨fun c hc => ht.1 c (List.mem_reverse.mp hc), by rw [List.length_reverse]; exact tz⟩, fun H2 e he0 sm2 he => ?_⟩
    have sm12 := sm1.trans sm2
    have hd2 := sm2 _ _ hd
    show revLQ K (.ref e) H2 _
    refine w_revL (SqL.of he) fun r hr => ?_
    have hr0 := Same.fresh sm12 hr
    have erev : nums R.letters text.reverse = (nums R.letters text).reverse := by
      unfold nums
      rw [List.map_reverse]
    have hr4 : upd H2 r (.lst ((walkA R.back (nums R.letters text.reverse)).map vI).reverse) r = some (.lst ((behindA R.back (nums R.letters text)).map vI)) := by
      unfold behindA
      rw [upd_same, erev, List.map_reverse]
    have hd4 : upd H2 r (.lst ((walkA R.back (nums R.letters text.reverse)).map vI).reverse) d = some (.lst ((walkA R.forth (nums R.letters text)).map vI)) := get_ne (ne_of_none hd2 hr) hd2
    have sm4 : Same H (upd H2 r (.lst ((walkA R.back (nums R.letters text.reverse)).map vI).reverse)) := sm12.trans (same_new hr)
    generalize upd H2 r (.lst ((walkA R.back (nums R.letters text.reverse)).map vI).reverse) = H4 at sm4 hr4 hd4 ⊢
    clear sm12 sm2 sm1 hd2 hd he
    walk_at "go"
    refine w_new (by simp) fun o ho => ?_
    have hdo : d ≠ o := ne_of_none hd4 ho
    have hro : r ≠ o := ne_of_none hr4 ho
    have ho0 := Same.fresh sm4 ho
    have hd5 : upd H4 o (.lst []) d = some (.lst ((walkA R.forth (nums R.letters text)).map vI)) := get_ne hdo hd4
    have hr5 : upd H4 o (.lst []) r = some (.lst ((behindA R.back (nums R.letters text)).map vI)) := get_ne hro hr4
    walk_at "go"
    refine w_rng1 (by omega) (by omega) (fun i σ H' => ∃ v9, σ = [some (.ref x), some (vS text), some (vS R.letters), some (.ref pf), some (.ref pb), some (.ref pt), some (.ref d), some (.ref r), some (.ref o), v9] ∧
        H' o = some (.lst (((List.range i).map fun j => [markAt R (nums R.letters text) j]).map vS)) ∧ H' d = some (.lst ((walkA R.forth (nums R.letters text)).map vI)) ∧ H' r = some (.lst ((behindA R.back (nums R.letters text)).map vI)) ∧ Same H H')
      ⟨_, rfl, upd_same, hd5, hr5, Same.new' sm4 ho⟩ ?_ ?_
    · rintro i σ H' hi ⟨v9, rfl, h1, h2, h3, sm⟩
      have hin : i < text.length := by omega
      obtain ⟨c, hc⟩ : ∃ c, text[i]? = some c := ⟨_, List.getElem?_eq_getElem hin⟩
      have hcl := ht.1 c (List.mem_of_getElem? hc)
      have hx := nums_at (l := R.letters) hc
      have hxk := List.idxOf_lt_length_of_mem hcl
      have tx' := Tx.of_same sm
      obtain ⟨xt, ht1, ht2, ht3⟩ := htb.tx tx'
      have hs := hg.fr.st (nums R.letters text) i
      obtain ⟨tr, htr⟩ : ∃ tr, R.table[stA R.forth (nums R.letters text) i]? = some tr := ⟨_, List.getElem?_eq_getElem (by rw [hg.tl]; exact hs)⟩
      obtain ⟨p3, hp3, hp4⟩ := ht3 _ _ htr
      obtain ⟨htl, hts⟩ := hg.tr tr (List.mem_of_getElem? htr)
      obtain ⟨z, hz⟩ : ∃ z, tr[R.letters.idxOf c]? = some z := ⟨_, List.getElem?_eq_getElem (by omega)⟩
      have hzl := hts z (List.mem_of_getElem? hz)
      have hbs := hg.br.st (nums R.letters text).reverse ((nums R.letters text).length - (i + 1))
      have hwf := walk_at (moves := R.forth) (ns := nums R.letters text) (i := i) (by omega)
      have hbh := behind_at (moves := R.back) (ns := nums R.letters text) (i := i + 1) (by omega)
      have hzc := getD_at (xs := z) (i := stA R.back (nums R.letters text).reverse ((nums R.letters text).length - (i + 1))) (d := 0) (by omega)
      have em : markAt R (nums R.letters text) i = z.getD (stA R.back (nums R.letters text).reverse ((nums R.letters text).length - (i + 1))) 0 := by
        unfold markAt
        rw [getD_of htr, getD_of hx, getD_of hz]
      have b1 := hg.b1
      have hll : (((List.range i).map fun j => [markAt R (nums R.letters text) j]).map vS).length < 16777216 := by rw [List.length_map, List.length_map, List.length_range]; omega
      walk_at "go"
      refine w_ixL (SqL.of h2) (atI_nat (at_map hwf)) ?_
      walk_at "go"
      refine w_find1 hcl ?_
      walk_at "go"
      refine w_ixT hp4 (atI_nat (at_map hz)) ?_
      walk_at "go"
      rw [show (i : Int) + 1 = ((i + 1 : Nat) : Int) from rfl]
      refine w_ixL (SqL.of h3) (atI_nat (at_map hbh)) ?_
      walk_at "go"
      refine ⟨some (vI i), rfl, ?_, get_ne hdo h2, get_ne hro h3, Same.mut sm ho0⟩
      rw [upd_same, List.range_succ, List.map_append, List.map_append, ← em]
      rfl
    · rintro σ H' ⟨v9, rfl, h1, h2, h3, sm⟩
      rw [Int.toNat_natCast] at h1
      have ef : ((List.range text.length).map fun j => [markAt R (nums R.letters text) j]).flatten = marksOf R text := by
        unfold marksOf
        rw [show ((List.range text.length).map fun j => [markAt R (nums R.letters text) j]) = ((List.range text.length).map (markAt R (nums R.letters text))).map (fun c => [c]) by rw [List.map_map]; rfl, flat_sing]
      walk_at "go"
      refine w_join0 (SqL.of h1) (by rw [ef]; unfold marksOf; rw [List.length_map, List.length_range]; omega) ?_
      rw [ef]
      walk_at "go"
      refine w_new (by simp) fun y hy => ?_
      exact q _ y d r (Same.fresh sm hy) hd0 hr0 (Same.new' sm hy) upd_same (get_ne (ne_of_none h2 hy) h2) (get_ne (ne_of_none h3 hy) h3)
abbrev s__law_states_told : Stmt := topS 20
theorem sc__law_states_told : FnScope ["told", "due", "at"] ["told", "due"] (defScope s__law_states_told) := ⟨rfl, rfl, rfl, by decide +kernel, rfl, by decide +kernel, by decide +kernel⟩
theorem ok__law_states_told (F : At K mg "_law_states_told" s__law_states_told) (b_len : mg "len" = none) (b_range : mg "range" = none) (b_isinstance : mg "isinstance" = none) (b_tuple : mg "tuple" = none) (b_int : mg "int" = none) (b_bool : mg "bool" = none) : Cal P w K mg base 1 "_law_states_told" (spTold K) := by
  refine F.cal sc__law_states_told (fun vs H Q E h => ?_) (fun _ _ _ _ _ _ us hl => match us, hl with | [_, _], _ => rfl) (fun f cdv A outer s H vs Q E hr h => ?_)
  · obtain ⟨t, d, ns, rfl, _⟩ := h
    rfl
  · obtain ⟨t, d, ns, rfl, ht, hd, hz, q⟩ := h
    refine ⟨_, (pss_cons (ps_if (PW.pt (pw_or (pt_not (pt_val (pe_callB call_isi (by rfl) b_isinstance (by decide +kernel) (pa_cons (pv 0) (pa_cons (pe_bltn (v := .ty "tuple") (u := .type "tuple") (by rfl) b_tuple (by decide +kernel) rfl) pa_nil))))) (pw_or1 (pt_cmpR op_neI (pe_callB call_lenQ (by rfl) b_len PySem.boot_len (pa_cons (pv 0) pa_nil)) (pe_callB call_lenQ (by rfl) b_len PySem.boot_len (pa_cons (pv 1) pa_nil)) (nomark _))))) (pss_one (ps_ret pe_bl)) pss_nil)
      (pss_cons (ps_for PassesOwn.never rfl (pi_range1 (by rfl) b_range (pa_cons (pe_callB call_lenQ (by rfl) b_len PySem.boot_len (pa_cons (pv 1) pa_nil)) pa_nil)) (pg_name (i := 2) sc__law_states_told.nd rfl (.inl rfl))
      (pss_one (ps_if (PW.pt (pw_or (pt_not (pt_val (pe_callB call_isi (by rfl) b_isinstance (by decide +kernel) (pa_cons (pe_ix ix_tup (pv 0) (pv 2) (fun _ _ => rfl)) (pa_cons (pe_bltn (v := .ty "int") (u := .type "int") (by rfl) b_int (by decide +kernel) rfl) pa_nil))))) (pw_or (pt_val (pe_callB call_isi (by rfl) b_isinstance (by decide +kernel) (pa_cons (pe_ix ix_tup (pv 0) (pv 2) (fun _ _ => rfl)) (pa_cons (pe_bltn (v := .ty "bool") (u := .type "bool") (by rfl) b_bool (by decide +kernel) rfl) pa_nil)))) (pw_or1 (pt_cmpR op_neI (pe_ix ix_tup (pv 0) (pv 2) (fun _ _ => rfl)) (pe_ix ix_list (pv 1) (pv 2) (fun _ _ => rfl)) (nomark _)))))) (pss_one (ps_ret pe_bl)) pss_nil)))
      (pss_one (ps_ret pe_bl)))), ?_⟩
    refine st_is (σ' := start _ _) (σ := [some (.ref t), some (.ref d), none]) rfl ?_
    try dsimp only [cxOf, Cx.nox, Cx.wish]
    walk_at "go"
    refine w_isi (tyX_T ht) kt_tuple ?_
    walk_at "go"
    rw [List.length_map, decide_eq_true rfl]
    walk_at "go"
    rw [List.length_map]
    refine w_rng1 (by omega) (by omega) (fun i σ H' => ∃ v, σ = [some (.ref t), some (.ref d), v] ∧ H' = H) ⟨_, rfl, rfl⟩ ?_ ?_
    · rintro i σ H' hi ⟨v, rfl, rfl⟩
      obtain ⟨x, hx⟩ : ∃ x, ns[i]? = some x := ⟨_, List.getElem?_eq_getElem (by omega)⟩
      have hx' := atI_nat (at_map (f := vI) hx)
      walk_at "go"
      refine w_ixT ht hx' ?_
      walk_at "go"
      refine w_isi (rep_ty (Rep.int (i := (x : Int)))) ki_int ?_
      walk_at "go"
      refine w_ixT ht hx' ?_
      walk_at "go"
      refine w_isi (rep_ty (Rep.int (i := (x : Int)))) ki_bool ?_
      walk_at "go"
      refine w_ixT ht hx' ?_
      walk_at "go"
      refine w_ixL (SqL.of hd) hx' ?_
      walk_at "go"
      rw [decide_eq_true rfl]
      walk_at "go"
      exact ⟨_, rfl, rfl⟩
    · rintro σ H' ⟨v, rfl, rfl⟩
      walk_at "go"
      exact q _ (Same.refl _)
abbrev s__law_holds : Stmt := topS 21
theorem sc__law_holds : FnScope ["readers", "text", "due", "marks"] ["readers", "text", "due"] (defScope s__law_holds) := ⟨rfl, rfl, rfl, by decide +kernel, rfl, by decide +kernel, by decide +kernel⟩
theorem ok__law_holds (c_marks_by : Cal P w K mg base 3 "marks_by" (spMarks K)) (c__law_states_told : Cal P w K mg base 1 "_law_states_told" (spTold K)) (c_forth_states : Cal P w K mg base 3 "forth_states" (spForth K)) (c_back_states : Cal P w K mg base 3 "back_states" (spBack K))
    (F : At K mg "_law_holds" s__law_holds) (b_isinstance : mg "isinstance" = none) (b_str : mg "str" = none) : Cal P w K mg base 4 "_law_holds" (spHolds K) := by
  refine F.cal sc__law_holds (fun vs H Q E h => ?_) (fun _ _ _ _ _ _ us hl => match us, hl with | [_, _, _], _ => rfl) (fun f cdv A outer s H vs Q E hr h => ?_)
  · obtain ⟨x, d, R, text, rfl, _⟩ := h
    rfl
  · obtain ⟨x, d, R, text, rfl, hR, hg, ht, ⟨a, b, hd, ha, hb⟩, q⟩ := h
    refine ⟨_, (pss_cons (ps_set (i := 3) sc__law_holds.nd rfl (.inl rfl) (pe_c c_marks_by hr (by decide) (by rfl) (pa_cons (pv 0) (pa_cons (pv 1) pa_nil))))
      (pss_cons (ps_if (PW.pt (pw_or (pt_not (pt_val (pe_callB call_isi (by rfl) b_isinstance (by decide +kernel) (pa_cons (pv 3) (pa_cons (pe_bltn (v := .ty "str") (u := .type "str") (by rfl) b_str (by decide +kernel) rfl) pa_nil))))) (pw_or1 (pt_not (pt_cmpR op_eqS (pv 3) (pe_ix ix_list (pv 2) pe_int (fun _ _ => rfl)) (nomark _)))))) (pss_one (ps_ret pe_bl)) pss_nil)
      (pss_cons (ps_if (pt_not (pt_val (pe_c c__law_states_told hr (by decide) (by rfl) (pa_cons (pe_c c_forth_states hr (by decide) (by rfl) (pa_cons (pv 0) (pa_cons (pv 1) pa_nil))) (pa_cons (pe_ix ix_list (pv 2) pe_int (fun _ _ => rfl)) pa_nil))))) (pss_one (ps_ret pe_bl)) pss_nil)
      (pss_one (ps_ret (pe_c c__law_states_told hr (by decide) (by rfl) (pa_cons (pe_c c_back_states hr (by decide) (by rfl) (pa_cons (pv 0) (pa_cons (pv 1) pa_nil))) (pa_cons (pe_ix ix_list (pv 2) pe_int (fun _ _ => rfl)) pa_nil)))))))), ?_⟩
    refine st_is (σ' := start _ _) (σ := [some (.ref x), some (vS text), some (.ref d), none]) rfl ?_
    try dsimp only [cxOf, Cx.nox, Cx.wish]
    have tz := ht.2
    have nl := nums_len R.letters text
    have wl := walk_len R.forth (nums R.letters text)
    have bl := behind_len R.back (nums R.letters text)
    walk_at "go"
    refine ⟨x, R, text, rfl, hR, hg, ht, fun H1 sm1 => ?_⟩
    have hd1 := sm1 _ _ hd
    walk_at "go"
    refine w_isi (rep_ty (Rep.str (l := marksOf R text))) ks_str ?_
    walk_at "go"
    rw [decide_eq_true rfl]
    walk_at "go"
    refine ⟨x, R, text, rfl, hR.tx (Tx.of_same sm1), hg, ht, fun H2 t sm2 ht2 => ?_⟩
    have hd2 := sm2 _ _ hd1
    have sm12 := sm1.trans sm2
    walk_at "go"
    refine ⟨t, a, _, rfl, ht2, sm12 _ _ ha, by omega, fun H3 sm3 => ?_⟩
    have sm13 := sm12.trans sm3
    have hd3 := sm3 _ _ hd2
    walk_at "go"
    refine ⟨x, R, text, rfl, hR.tx (Tx.of_same sm13), hg, ht, fun H4 t' sm4 ht4 => ?_⟩
    have hd4 := sm4 _ _ hd3
    have sm14 := sm13.trans sm4
    walk_at "go"
    refine ⟨t', b, _, rfl, ht4, sm14 _ _ hb, by omega, fun H5 sm5 => ?_⟩
    exact q _ (sm14.trans sm5)
abbrev s__law_changed : Stmt := topS 22
theorem sc__law_changed : FnScope ["readers", "due", "text", "at", "letters", "forth", "back", "table", "rows", "place", "row", "sign"] ["readers", "due", "text", "at"] (defScope s__law_changed) := ⟨rfl, rfl, rfl, by decide +kernel, rfl, by decide +kernel, by decide +kernel⟩
def signOf (o : Nat) : Nat := if o = 78 then 46 else 78
theorem sign_ne (o : Nat) : signOf o ≠ o := by
  unfold signOf
  split <;> omega
/-- the mark at a place of the table set anew -/
def putMark (R : Rd) (s x k m : Nat) : Rd := ⟨R.letters, R.forth, R.back, R.table.set s ((R.table.getD s []).set x (((R.table.getD s []).getD x []).take k ++ [m] ++ ((R.table.getD s []).getD x []).drop (k + 1)))⟩
theorem put_good {R : Rd} {s x k m : Nat} (g : GoodR R) (hs : s < R.forth.length) (hx : x < R.letters.length) (hk : k < R.back.length) : GoodR (putMark R s x k m) := by
  have hrow : R.table[s]? = some (R.table.getD s []) := getD_at (by rw [g.tl]; exact hs)
  obtain ⟨h1, h2⟩ := g.tr _ (List.mem_of_getElem? hrow)
  have hz : (R.table.getD s [])[x]? = some ((R.table.getD s []).getD x []) := getD_at (by rw [h1]; exact hx)
  have h3 := h2 _ (List.mem_of_getElem? hz)
  refine ⟨g.l0, g.nd, g.l1, g.f1, g.b1, g.fr, g.br, ?_, fun r hr => ?_⟩
  · show (R.table.set s _).length = R.forth.length
    rw [List.length_set, g.tl]
  · rcases List.mem_or_eq_of_mem_set hr with hr | hr
    · exact g.tr r hr
    · subst hr
      refine ⟨by rw [List.length_set, h1]; rfl, fun z hz => ?_⟩
      rcases List.mem_or_eq_of_mem_set hz with hz | hz
      · exact h2 z hz
      · subst hz
        rw [List.length_append, List.length_append, List.length_take, List.length_drop]
        show min k ((R.table.getD s []).getD x []).length + 1 + (((R.table.getD s []).getD x []).length - (k + 1)) = R.back.length
        omega
theorem put_mark {R : Rd} {s x k m : Nat} (g : GoodR R) (hs : s < R.forth.length) (hx : x < R.letters.length) (hk : k < R.back.length) : (((putMark R s x k m).table.getD s []).getD x []).getD k 0 = m := by
  have hrow : R.table[s]? = some (R.table.getD s []) := getD_at (by rw [g.tl]; exact hs)
  obtain ⟨h1, h2⟩ := g.tr _ (List.mem_of_getElem? hrow)
  have hz : (R.table.getD s [])[x]? = some ((R.table.getD s []).getD x []) := getD_at (by rw [h1]; exact hx)
  have h3 := h2 _ (List.mem_of_getElem? hz)
  refine getD_of ?_
  have e1 : (putMark R s x k m).table.getD s [] = (R.table.getD s []).set x (((R.table.getD s []).getD x []).take k ++ [m] ++ ((R.table.getD s []).getD x []).drop (k + 1)) := getD_of (List.getElem?_set_self (by rw [g.tl]; exact hs))
  have e2 : ((putMark R s x k m).table.getD s []).getD x [] = ((R.table.getD s []).getD x []).take k ++ [m] ++ ((R.table.getD s []).getD x []).drop (k + 1) := by
    rw [e1]
    exact getD_of (List.getElem?_set_self (by rw [h1]; exact hx))
  rw [e2, List.append_assoc, List.getElem?_append_right (by rw [List.length_take]; omega), List.length_take, show k - min k ((R.table.getD s []).getD x []).length = 0 by omega]
  rfl
theorem ok__law_changed (F : At K mg "_law_changed" s__law_changed) (b_list : mg "list" = none) (b_tuple : mg "tuple" = none) : Cal P w K mg base 1 "_law_changed" (spChanged K) := by
  refine F.cal sc__law_changed (fun vs H Q E h => ?_) (fun _ _ _ _ _ _ us hl => match us, hl with | [_, _, _, _], _ => rfl) (fun f cdv A outer s H vs Q E hr h => ?_)
  · obtain ⟨x, d, R, text, i, rfl, _⟩ := h
    rfl
  · obtain ⟨x, d, R, text, i, rfl, hR, hg, ht, ⟨da, db, hd, ha, hb⟩, hi, q⟩ := h
    refine ⟨_, (pss_cons (ps_asg (pv 0) (pg_tup rfl (pgs_cons (pg_name (i := 4) sc__law_changed.nd rfl (.inl rfl)) (pgs_cons (pg_name (i := 5) sc__law_changed.nd rfl (.inl rfl)) (pgs_cons (pg_name (i := 6) sc__law_changed.nd rfl (.inl rfl)) (pgs_cons (pg_name (i := 7) sc__law_changed.nd rfl (.inl rfl)) pgs_nil))))))
      (pss_cons (ps_set (i := 8) sc__law_changed.nd rfl (.inl rfl) (pe_callTy call_listT (by rfl) b_list (by decide +kernel) (pa_cons (pv 7) pa_nil)))
      (pss_cons (ps_set (i := 9) sc__law_changed.nd rfl (.inl rfl) (pe_m1 PySem.F.slot_str_find PySem.F.type_str_find mt_find1 (pv 4) (pe_ix ix_S (pv 2) (pv 3) (fun _ _ => rfl))))
      (pss_cons (ps_set (i := 10) sc__law_changed.nd rfl (.inl rfl) (pe_callTy call_listT (by rfl) b_list (by decide +kernel) (pa_cons (pe_ix ix_list (pv 8) (pe_ix ix_list (pe_ix ix_list (pv 1) pe_int (fun _ _ => rfl)) (pv 3) (fun _ _ => rfl)) (fun _ _ => rfl)) pa_nil)))
      (pss_cut (ps_set (i := 11) sc__law_changed.nd rfl (.inl rfl) (pe_ifExp (pt_cmpR op_neS (pe_ix ix_S (pe_ix ix_list (pv 1) pe_int (fun _ _ => rfl)) (pv 3) (fun _ _ => rfl)) (pe_strL [78] (by decide +kernel)) (nomark _)) (pe_strL [78] (by decide +kernel)) (pe_strL [46] (by decide +kernel))))
      (pss_cons (ps_asg (pe_op op_addS (pe_op op_addS (pe_slice sl_S (pe_ix ix_list (pv 10) (pv 9) (fun _ _ => rfl)) po_none (po_some (pe_ix ix_list (pe_ix ix_list (pv 1) pe_int (fun _ _ => rfl)) (pe_op op_add (pv 3) pe_int) (fun _ _ => rfl)))) (pv 11)) (pe_slice sl_S (pe_ix ix_list (pv 10) (pv 9) (fun _ _ => rfl)) (po_some (pe_op op_add (pe_ix ix_list (pe_ix ix_list (pv 1) pe_int (fun _ _ => rfl)) (pe_op op_add (pv 3) pe_int) (fun _ _ => rfl)) pe_int)) po_none)) (pg_sub (pv 10) (pv 9) set_list))
      (pss_cons (ps_asg (pe_callTy call_tupL (by rfl) b_tuple (by decide +kernel) (pa_cons (pv 10) pa_nil)) (pg_sub (pv 8) (pe_ix ix_list (pe_ix ix_list (pv 1) pe_int (fun _ _ => rfl)) (pv 3) (fun _ _ => rfl)) set_list))
      (pss_one (ps_ret (pe_tup (pa_cons (pv 4) (pa_cons (pv 5) (pa_cons (pv 6) (pa_cons (pe_callTy call_tupL (by rfl) b_tuple (by decide +kernel) (pa_cons (pv 8) pa_nil)) pa_nil)))))))))))))), ?_⟩
    refine st_is (σ' := start _ _) (σ := [some (.ref x), some (.ref d), some (vS text), some (vI i), none, none, none, none, none, none, none, none]) rfl ?_
    try dsimp only [cxOf, Cx.nox, Cx.wish]
    obtain ⟨pf, pb, pt, hx, hf, hbk, htb⟩ := hR
    obtain ⟨xt, ht1, ht2, ht3⟩ := htb
    have l1 := hg.l1
    have nl := nums_len R.letters text
    have tz := ht.2
    obtain ⟨c, hc⟩ : ∃ c, text[i]? = some c := ⟨_, List.getElem?_eq_getElem hi⟩
    have hcl := ht.1 c (List.mem_of_getElem? hc)
    have hxk := List.idxOf_lt_length_of_mem hcl
    walk_at "go"
    refine w_listT ht1 fun rw' hrw => ?_
    walk_at "go"
    refine w_find1 hcl ?_
    walk_at "go"
    have hs := hg.fr.st (nums R.letters text) i
    have hk := hg.br.st (nums R.letters text).reverse ((nums R.letters text).length - (i + 1))
    have hwf := walk_at (moves := R.forth) (ns := nums R.letters text) (i := i) (by omega)
    have hbh := behind_at (moves := R.back) (ns := nums R.letters text) (i := i + 1) (by omega)
    have hn := nums_at (l := R.letters) hc
    generalize es : stA R.forth (nums R.letters text) i = s at hs hwf
    generalize ek : stA R.back (nums R.letters text).reverse ((nums R.letters text).length - (i + 1)) = k at hk hbh
    generalize ex : R.letters.idxOf c = x' at hxk hn
    have hrow : R.table[s]? = some (R.table.getD s []) := getD_at (by rw [hg.tl]; exact hs)
    obtain ⟨h1, h2⟩ := hg.tr _ (List.mem_of_getElem? hrow)
    have hz : (R.table.getD s [])[x']? = some ((R.table.getD s []).getD x' []) := getD_at (by rw [h1]; exact hxk)
    have h3 := h2 _ (List.mem_of_getElem? hz)
    obtain ⟨p1, hp1, hp2⟩ := ht3 _ _ hrow
    have eold : markAt R (nums R.letters text) i = ((R.table.getD s []).getD x' []).getD k 0 := by
      unfold markAt
      rw [es, ek, getD_of hn]
    have hold : (marksOf R text)[i]? = some (((R.table.getD s []).getD x' []).getD k 0) := by
      unfold marksOf
      rw [List.getElem?_map, List.getElem?_range hi]
      exact congrArg some eold
    have b1 := hg.b1
    have hml : (marksOf R text).length = text.length := by unfold marksOf; rw [List.length_map, List.length_range]
    have g2 := put_good (m := signOf (((R.table.getD s []).getD x' []).getD k 0)) hg hs hxk hk
    have hput := put_mark (m := signOf (((R.table.getD s []).getD x' []).getD k 0)) hg hs hxk hk
    have hnew : (marksOf (putMark R s x' k (signOf (((R.table.getD s []).getD x' []).getD k 0))) text)[i]? = some (signOf (((R.table.getD s []).getD x' []).getD k 0)) := by
      unfold marksOf
      rw [List.getElem?_map, List.getElem?_range hi]
      show some (((List.getD _ (stA R.forth (nums R.letters text) i) []).getD ((nums R.letters text).getD i 0) []).getD (stA R.back (nums R.letters text).reverse ((nums R.letters text).length - (i + 1))) 0) = _
      rw [es, ek, getD_of hn, hput]
    have hxs : s < xt.length := by rw [ht2, hg.tl]; exact hs
    generalize eT : R.table.getD s [] = row at *
    generalize eZ : row.getD x' [] = z at *
    generalize eO : z.getD k 0 = old at *
    have hzc : z[k]? = some old := by
      rw [← eO]
      exact getD_at (by omega)
    have ha2 : upd H rw' (.lst xt) da = some (.lst ((walkA R.forth (nums R.letters text)).map vI)) := get_ne (ne_of_none ha hrw) ha
    have hb2 : upd H rw' (.lst xt) db = some (.lst ((behindA R.back (nums R.letters text)).map vI)) := get_ne (ne_of_none hb hrw) hb
    have hd2 : upd H rw' (.lst xt) d = some (.lst [.ref da, .ref db, vS (marksOf R text)]) := get_ne (ne_of_none hd hrw) hd
    refine w_ixL (SqL.of ha2) (atI_nat (at_map hwf)) ?_
    walk_at "go"
    refine w_listT (Tx.sqT (Tx.new (Tx.refl _) hrw) hp2) fun r hr => ?_
    have sm2 : Same H (upd (upd H rw' (.lst xt)) r (.lst (row.map vS))) := Same.new' (same_new hrw) hr
    have hrr : rw' ≠ r := ne_of_none upd_same hr
    have hrw2 : upd (upd H rw' (.lst xt)) r (.lst (row.map vS)) rw' = some (.lst xt) := get_ne hrr upd_same
    have hr2 : upd (upd H rw' (.lst xt)) r (.lst (row.map vS)) r = some (.lst (row.map vS)) := upd_same
    have ha3 : upd (upd H rw' (.lst xt)) r (.lst (row.map vS)) da = _ := get_ne (ne_of_none ha2 hr) ha2
    have hb3 : upd (upd H rw' (.lst xt)) r (.lst (row.map vS)) db = _ := get_ne (ne_of_none hb2 hr) hb2
    have hd3 : upd (upd H rw' (.lst xt)) r (.lst (row.map vS)) d = _ := get_ne (ne_of_none hd2 hr) hd2
    have hr0 := (none_of_upd hr).1
    generalize upd (upd H rw' (.lst xt)) r (.lst (row.map vS)) = H2 at sm2 hrw2 hr2 ha3 hb3 hd3 ⊢
    walk_at "go"
    refine w_cut (fun σ H' => σ = [some (.ref x), some (.ref d), some (vS text), some (vI i), some (vS R.letters), some (.ref pf), some (.ref pb), some (.ref pt), some (.ref rw'), some (vI x'), some (.ref r), some (vS [signOf old])] ∧ H' = H2) ?_ ?_
    · walk_at "go"
      unfold signOf
      by_cases ho : old = 78
      · rw [decide_eq_true (by rw [ho])]
        walk_at "go"
        rw [if_pos ho]
        exact ⟨rfl, rfl⟩
      · rw [decide_eq_false (fun e => ho (List.head_eq_of_cons_eq e))]
        walk_at "go"
        rw [if_neg ho]
        exact ⟨rfl, rfl⟩
    rintro σ' H3 ⟨rfl, e3⟩
    subst e3
    have hkb : atI ((behindA R.back (nums R.letters text)).map vI) ((i : Int) + 1) = some (vI k) := by
      rw [show (i : Int) + 1 = ((i + 1 : Nat) : Int) from rfl]
      exact atI_nat (at_map hbh)
    have hzr : atI (row.map vS) (x' : Int) = some (vS z) := atI_nat (at_map hz)
    have ecl : cutL z none (some (k : Int)) = z.take k := cutL_to z k
    have ecr : cutL z (some ((k : Int) + 1)) none = z.drop (k + 1) := cutL_from2 z (k + 1)
    walk_at "go"
    refine w_ixL (SqL.of hr2) hzr ?_
    walk_at "go"
    refine w_ixL (SqL.of hb3) hkb ?_
    walk_at "go"
    rw [ecl]
    refine w_addS (by rw [List.length_take]; show _ + 1 ≤ _; omega) ?_
    walk_at "go"
    refine w_ixL (SqL.of hr2) hzr ?_
    walk_at "go"
    refine w_ixL (SqL.of hb3) hkb ?_
    walk_at "go"
    rw [ecr]
    refine w_addS (by rw [List.length_append, List.length_take, List.length_drop]; show _ + 1 + _ ≤ _; omega) ?_
    walk_at "go"
    refine w_setL (j := x') hr2 (ixN_n (by rw [List.length_map]; omega)) ?_
    walk_at "go"
    rw [← List.map_set]
    refine w_tupL (SqL.of upd_same) fun t1 ht1' => ?_
    have hr00 : H r = none := by
      cases e : H r with
      | none => rfl
      | some o =>
        have := get_ne (o := HO.lst xt) (ne_of_none e hrw) e
        rw [this] at hr
        cases hr
    have hrw4 : upd (upd H3 r (.lst ((row.set x' (z.take k ++ [signOf old] ++ z.drop (k + 1))).map vS))) t1 (.tup ((row.set x' (z.take k ++ [signOf old] ++ z.drop (k + 1))).map vS)) rw' = some (.lst xt) := by
      have h := get_ne (o := HO.lst ((row.set x' (z.take k ++ [signOf old] ++ z.drop (k + 1))).map vS)) hrr hrw2
      exact get_ne (ne_of_none h ht1') h
    have ha4 : upd (upd H3 r (.lst ((row.set x' (z.take k ++ [signOf old] ++ z.drop (k + 1))).map vS))) t1 (.tup ((row.set x' (z.take k ++ [signOf old] ++ z.drop (k + 1))).map vS)) da = some (.lst ((walkA R.forth (nums R.letters text)).map vI)) := by
      have h := get_ne (o := HO.lst ((row.set x' (z.take k ++ [signOf old] ++ z.drop (k + 1))).map vS)) (ne_of_none ha hr00) ha3
      exact get_ne (ne_of_none h ht1') h
    have hd4 : upd (upd H3 r (.lst ((row.set x' (z.take k ++ [signOf old] ++ z.drop (k + 1))).map vS))) t1 (.tup ((row.set x' (z.take k ++ [signOf old] ++ z.drop (k + 1))).map vS)) d = some (.lst [.ref da, .ref db, vS (marksOf R text)]) := by
      have h := get_ne (o := HO.lst ((row.set x' (z.take k ++ [signOf old] ++ z.drop (k + 1))).map vS)) (ne_of_none hd hr00) hd3
      exact get_ne (ne_of_none h ht1') h
    have sm4 : Same H (upd (upd H3 r (.lst ((row.set x' (z.take k ++ [signOf old] ++ z.drop (k + 1))).map vS))) t1 (.tup ((row.set x' (z.take k ++ [signOf old] ++ z.drop (k + 1))).map vS))) := Same.new' (Same.mut sm2 hr00) ht1'
    have hT4 : upd (upd H3 r (.lst ((row.set x' (z.take k ++ [signOf old] ++ z.drop (k + 1))).map vS))) t1 (.tup ((row.set x' (z.take k ++ [signOf old] ++ z.drop (k + 1))).map vS)) t1 = some (.tup ((row.set x' (z.take k ++ [signOf old] ++ z.drop (k + 1))).map vS)) := upd_same
    generalize upd (upd H3 r (.lst ((row.set x' (z.take k ++ [signOf old] ++ z.drop (k + 1))).map vS))) t1 (.tup ((row.set x' (z.take k ++ [signOf old] ++ z.drop (k + 1))).map vS)) = H4 at hrw4 ha4 hd4 sm4 hT4 ⊢
    walk_at "go"
    refine w_ixL (SqL.of ha4) (atI_nat (at_map hwf)) ?_
    walk_at "go"
    refine w_setL (j := s) hrw4 (ixN_n hxs) ?_
    walk_at "go"
    refine w_tupL (SqL.of upd_same) fun u hu => ?_
    walk_at "go"
    refine w_new (by simp) fun y hy => ?_
    have sm5 := Same.new' (o := .tup [vS R.letters, .ref pf, .ref pb, .ref u]) (Same.new' (o := .tup (xt.set s (.ref t1))) (Same.mut (o := .lst (xt.set s (.ref t1))) sm4 hrw) hu) hy
    have tx5 := Tx.of_same sm5
    have hT5 : upd (upd (upd H4 rw' (.lst (xt.set s (.ref t1)))) u (.tup (xt.set s (.ref t1)))) y (.tup [vS R.letters, .ref pf, .ref pb, .ref u]) t1 = some (.tup ((row.set x' (z.take k ++ [signOf old] ++ z.drop (k + 1))).map vS)) := by
      have h1 := get_ne (o := HO.lst (xt.set s (.ref t1))) (show t1 ≠ rw' from fun e => by rw [e] at hT4; rw [hT4] at hrw4; cases hrw4) hT4
      have h2 := get_ne (o := HO.tup (xt.set s (.ref t1))) (ne_of_none h1 hu) h1
      exact get_ne (ne_of_none h2 hy) h2
    have eP : (putMark R s x' k (signOf old)).table = R.table.set s (row.set x' (z.take k ++ [signOf old] ++ z.drop (k + 1))) := by
      unfold putMark
      rw [eT, eZ]
    refine q _ y (putMark R s x' k (signOf old)) sm5 ⟨pf, pb, u, SqT.of upd_same, hf.tx tx5, hbk.tx tx5, ⟨xt.set s (.ref t1), SqT.of (get_ne (ne_of_none upd_same hy) upd_same), ?_, fun j r' e => ?_⟩⟩ g2 rfl ?_
    · rw [eP, List.length_set, List.length_set, ht2]
    · rw [eP] at e
      by_cases hj : j = s
      · subst hj
        rw [List.getElem?_set_self (by rw [hg.tl]; exact hs)] at e
        have e' := Option.some.inj e
        subst e'
        exact ⟨t1, by rw [List.getElem?_set_self hxs], SqT.of hT5⟩
      · rw [List.getElem?_set_ne (fun e => hj e.symm)] at e
        obtain ⟨p', e1, e2⟩ := ht3 j r' e
        exact ⟨p', by rw [List.getElem?_set_ne (fun e => hj e.symm)]; exact e1, tx5.sqT e2⟩
    · rw [getD_of hnew, getD_of hold]
      exact sign_ne old
abbrev s_law : Stmt := topS 23
theorem sc_law : FnScope ["script", "pool", "readers", "letters", "short", "due", "many", "text", "longer", "counter", "turns", "at", "changed", "other", "twice", "again"] ["script"] (defScope s_law) := ⟨rfl, rfl, rfl, by decide +kernel, rfl, by decide +kernel, by decide +kernel⟩
/-- a due that stays where the pool is not -/
structure DK (p g d a b : Addr) (R : Rd) (text : List Nat) (H : Hp) : Prop where
  n : (d ≠ p ∧ d ≠ g) ∧ (a ≠ p ∧ a ≠ g) ∧ (b ≠ p ∧ b ≠ g)
  h1 : H d = some (.lst [.ref a, .ref b, vS (marksOf R text)])
  h2 : H a = some (.lst ((walkA R.forth (nums R.letters text)).map vI))
  h3 : H b = some (.lst ((behindA R.back (nums R.letters text)).map vI))
theorem DK.kp {p g d a b : Addr} {R : Rd} {text : List Nat} {H H' : Hp} (h : DK p g d a b R text H) (k : Kp p g H H') : DK p g d a b R text H' := ⟨h.n, k _ _ h.n.1.1 h.n.1.2 h.h1, k _ _ h.n.2.1.1 h.n.2.1.2 h.h2, k _ _ h.n.2.2.1 h.n.2.2.2 h.h3⟩
theorem DK.same {p g d a b : Addr} {R : Rd} {text : List Nat} {H H' : Hp} (h : DK p g d a b R text H) (k : Same H H') : DK p g d a b R text H' := h.kp (Kp.of_same k)
theorem DK.at {p g d a b : Addr} {R : Rd} {text : List Nat} {H : Hp} (h : DK p g d a b R text H) : DueAt H d R text := ⟨a, b, h.h1, h.h2, h.h3⟩
theorem DK.mk' {p g d a b : Addr} {R : Rd} {text : List Nat} {H H' : Hp} (hP : Pool2 p g H) (f1 : H d = none) (f2 : H a = none) (f3 : H b = none) (h1 : H' d = some (.lst [.ref a, .ref b, vS (marksOf R text)])) (h2 : H' a = some (.lst ((walkA R.forth (nums R.letters text)).map vI))) (h3 : H' b = some (.lst ((behindA R.back (nums R.letters text)).map vI))) : DK p g d a b R text H' :=
  ⟨⟨⟨hP.ne1 f1, hP.ne2 f1⟩, ⟨hP.ne1 f2, hP.ne2 f2⟩, ⟨hP.ne1 f3, hP.ne2 f3⟩⟩, h1, h2, h3⟩
theorem marks_at {R : Rd} {text : List Nat} {i : Nat} (h : i < text.length) : (marksOf R text)[i]? = some ((marksOf R text).getD i 0) := getD_at (by unfold marksOf; rw [List.length_map, List.length_range]; exact h)
theorem marks_len (R : Rd) (text : List Nat) : (marksOf R text).length = text.length := by unfold marksOf; rw [List.length_map, List.length_range]
theorem ok_law {f : Addr} {fd : FuncData} (c__law_pool : Cal P w K mg base 1 "_law_pool" (spPool K)) (c__law_readers : Cal P w K mg base 3 "_law_readers" (spReaders K)) (c__law_draw : Cal P w K mg base 1 "_law_draw" spDraw) (c__law_wide : Cal P w K mg base 3 "_law_wide" (spReaders K))
    (c__law_holds : Cal P w K mg base 4 "_law_holds" (spHolds K)) (c__law_text : Cal P w K mg base 2 "_law_text" spText) (c__law_due : Cal P w K mg base 2 "_law_due" (spDue K)) (c__law_counter : Cal P w K mg base 3 "_law_counter" (spReaders2 K))
    (c__law_changed : Cal P w K mg base 1 "_law_changed" (spChanged K)) (c__law_doubled : Cal P w K mg base 2 "_law_doubled" (spDoubled K)) (F : Fun K "law" "law" s_law f fd) (b_len : mg "len" = none) : FnOk P w K mg base CX0 5 f fd ["script"] (spLaw K) := by
  refine F.ok sc_law (fun vs H Q E h => ?_) (fun cdv A outer s H vs Q E hr h => ?_)
  · obtain ⟨a, ns, rfl, _⟩ := h
    rfl
  · obtain ⟨a, ns, rfl, hS, hz, q⟩ := h
    refine ⟨_, (pss_cons (ps_set (i := 1) sc_law.nd rfl (.inl rfl) (pe_c c__law_pool hr (by decide) (by rfl) (pa_cons (pv 0) pa_nil)))
      (pss_cons (ps_set (i := 2) sc_law.nd rfl (.inl rfl) (pe_c c__law_readers hr (by decide) (by rfl) (pa_cons (pv 1) pa_nil)))
      (pss_cut (ps_if (pt_cmpR op_eqI (pe_c c__law_draw hr (by decide) (by rfl) (pa_cons (pv 1) (pa_cons pe_int pa_nil))) pe_int (nomark _)) (pss_one (ps_set (i := 2) sc_law.nd rfl (.inl rfl) (pe_c c__law_wide hr (by decide) (by rfl) (pa_cons (pv 1) pa_nil)))) pss_nil)
      (pss_cons (ps_set (i := 3) sc_law.nd rfl (.inl rfl) (pe_ix ix_tup (pv 2) pe_int (fun _ _ => rfl)))
      (pss_cons (ps_if (pt_not (pt_val (pe_c c__law_holds hr (by decide) (by rfl) (pa_cons (pv 2) (pa_cons (pe_strL [] (by decide +kernel)) (pa_cons (pe_lst (pa_cons (pe_lst (pa_cons pe_int pa_nil)) (pa_cons (pe_lst (pa_cons pe_int pa_nil)) (pa_cons (pe_strL [] (by decide +kernel)) pa_nil)))) pa_nil)))))) (pss_one (ps_ret pe_bl)) pss_nil)
      (pss_cons (ps_set (i := 4) sc_law.nd rfl (.inl rfl) (pe_c c__law_text hr (by decide) (by rfl) (pa_cons (pv 1) (pa_cons (pv 3) (pa_cons (pe_op op_add pe_int (pe_c c__law_draw hr (by decide) (by rfl) (pa_cons (pv 1) (pa_cons pe_int pa_nil)))) pa_nil)))))
      (pss_cons (ps_set (i := 5) sc_law.nd rfl (.inl rfl) (pe_c c__law_due hr (by decide) (by rfl) (pa_cons (pv 2) (pa_cons (pv 4) pa_nil))))
      (pss_cons (ps_if (pt_not (pt_val (pe_c c__law_holds hr (by decide) (by rfl) (pa_cons (pv 2) (pa_cons (pv 4) (pa_cons (pv 5) pa_nil)))))) (pss_one (ps_ret pe_bl)) pss_nil)
      (pss_cons (ps_set (i := 6) sc_law.nd rfl (.inl rfl) (pe_op op_add pe_int (pe_c c__law_draw hr (by decide) (by rfl) (pa_cons (pv 1) (pa_cons pe_int pa_nil)))))
      (pss_cut (ps_if (pt_cmpR op_eqI (pe_c c__law_draw hr (by decide) (by rfl) (pa_cons (pv 1) (pa_cons pe_int pa_nil))) pe_int (nomark _)) (pss_one (ps_set (i := 6) sc_law.nd rfl (.inl rfl) (pe_op op_add pe_int (pe_c c__law_draw hr (by decide) (by rfl) (pa_cons (pv 1) (pa_cons pe_int pa_nil)))))) pss_nil)
      (pss_cons (ps_set (i := 7) sc_law.nd rfl (.inl rfl) (pe_c c__law_text hr (by decide) (by rfl) (pa_cons (pv 1) (pa_cons (pv 3) (pa_cons (pv 6) pa_nil)))))
      (pss_cons (ps_set (i := 8) sc_law.nd rfl (.inl rfl) (pe_c c__law_due hr (by decide) (by rfl) (pa_cons (pv 2) (pa_cons (pv 7) pa_nil))))
      (pss_cons (ps_if (pt_not (pt_val (pe_c c__law_holds hr (by decide) (by rfl) (pa_cons (pv 2) (pa_cons (pv 7) (pa_cons (pv 8) pa_nil)))))) (pss_one (ps_ret pe_bl)) pss_nil)
      (pss_cons (ps_set (i := 9) sc_law.nd rfl (.inl rfl) (pe_c c__law_counter hr (by decide) (by rfl) (pa_cons (pv 1) pa_nil)))
      (pss_cons (ps_set (i := 10) sc_law.nd rfl (.inl rfl) (pe_op op_addS (pe_op op_addS (pe_op op_mulS (pe_ix ix_S (pe_ix ix_tup (pv 9) pe_int (fun _ _ => rfl)) pe_int (fun _ _ => rfl)) pe_int) (pe_c c__law_text hr (by decide) (by rfl) (pa_cons (pv 1) (pa_cons (pe_ix ix_tup (pv 9) pe_int (fun _ _ => rfl)) (pa_cons (pe_op op_add pe_int (pe_c c__law_draw hr (by decide) (by rfl) (pa_cons (pv 1) (pa_cons pe_int pa_nil)))) pa_nil))))) (pe_ix ix_S (pe_ix ix_tup (pv 9) pe_int (fun _ _ => rfl)) pe_int (fun _ _ => rfl))))
      (pss_cons (ps_if (pt_not (pt_val (pe_c c__law_holds hr (by decide) (by rfl) (pa_cons (pv 9) (pa_cons (pv 10) (pa_cons (pe_c c__law_due hr (by decide) (by rfl) (pa_cons (pv 9) (pa_cons (pv 10) pa_nil))) pa_nil)))))) (pss_one (ps_ret pe_bl)) pss_nil)
      (pss_cons (ps_set (i := 11) sc_law.nd rfl (.inl rfl) (pe_c c__law_draw hr (by decide) (by rfl) (pa_cons (pv 1) (pa_cons (pe_callB call_lenS (by rfl) b_len PySem.boot_len (pa_cons (pv 7) pa_nil)) pa_nil))))
      (pss_cons (ps_set (i := 12) sc_law.nd rfl (.inl rfl) (pe_c c__law_changed hr (by decide) (by rfl) (pa_cons (pv 2) (pa_cons (pv 8) (pa_cons (pv 7) (pa_cons (pv 11) pa_nil))))))
      (pss_cons (ps_set (i := 13) sc_law.nd rfl (.inl rfl) (pe_c c__law_due hr (by decide) (by rfl) (pa_cons (pv 12) (pa_cons (pv 7) pa_nil))))
      (pss_cons (ps_if (PW.pt (pw_or (pt_cmpR op_eqS (pe_ix ix_S (pe_ix ix_list (pv 13) pe_int (fun _ _ => rfl)) (pv 11) (fun _ _ => rfl)) (pe_ix ix_S (pe_ix ix_list (pv 8) pe_int (fun _ _ => rfl)) (pv 11) (fun _ _ => rfl)) (nomark _)) (pw_or1 (pt_not (pt_val (pe_c c__law_holds hr (by decide) (by rfl) (pa_cons (pv 12) (pa_cons (pv 7) (pa_cons (pv 13) pa_nil))))))))) (pss_one (ps_ret pe_bl)) pss_nil)
      (pss_cut (ps_if (PW.pt (pw_and (pt_cmpR op_le (pe_callB call_lenQ (by rfl) b_len PySem.boot_len (pa_cons (pe_ix ix_tup (pv 2) pe_int (fun _ _ => rfl)) pa_nil)) pe_int (nomark _)) (pw_and1 (pt_cmpR op_le (pe_callB call_lenQ (by rfl) b_len PySem.boot_len (pa_cons (pe_ix ix_tup (pv 2) pe_int (fun _ _ => rfl)) pa_nil)) pe_int (nomark _))))) (pss_cons (ps_set (i := 14) sc_law.nd rfl (.inl rfl) (pe_c c__law_doubled hr (by decide) (by rfl) (pa_cons (pv 1) (pa_cons (pv 2) pa_nil))))
      (pss_cons (ps_set (i := 15) sc_law.nd rfl (.inl rfl) (pe_c c__law_due hr (by decide) (by rfl) (pa_cons (pv 14) (pa_cons (pv 7) pa_nil))))
      (pss_one (ps_if (PW.pt (pw_or (pt_cmpR op_neS (pe_ix ix_list (pv 15) pe_int (fun _ _ => rfl)) (pe_ix ix_list (pv 8) pe_int (fun _ _ => rfl)) (nomark _)) (pw_or1 (pt_not (pt_val (pe_c c__law_holds hr (by decide) (by rfl) (pa_cons (pv 14) (pa_cons (pv 7) (pa_cons (pv 15) pa_nil))))))))) (pss_one (ps_ret pe_bl)) pss_nil)))) pss_nil)
      (pss_one (ps_ret (pe_c c__law_holds hr (by decide) (by rfl) (pa_cons (pv 2) (pa_cons (pv 4) (pa_cons (pv 5) pa_nil))))))))))))))))))))))))))), ?_⟩
    refine st_is (σ' := start _ _) (σ := [some (.ref a), none, none, none, none, none, none, none, none, none, none, none, none, none, none, none]) rfl ?_
    try dsimp only [cxOf, Cx.nox, Cx.wish]
    walk_at "go"
    refine ⟨a, ns, rfl, hS, hz, fun H1 p g hp0 hg0 hP1 sm1 => ?_⟩
    walk_at "go"
    refine ⟨p, g, rfl, hP1, fun H2 R x gR hf4 hb4 hR hP2 kp2 => ?_⟩
    walk_at "go"
    refine w_cut (fun σ H' => ∃ R x, σ = [some (.ref a), some (.ref p), some (.ref x), none, none, none, none, none, none, none, none, none, none, none, none, none] ∧ GoodR R ∧ R.forth.length ≤ 400 ∧ R.back.length ≤ 400 ∧ RdAt K H' x R ∧ Pool2 p g H') ?_ ?_
    · walk_at "go"
      refine ⟨p, g, 13, rfl, hP2, by omega, by omega, fun H3 r3 hr3 hP3 kp3 => ?_⟩
      walk_at "go"
      refine ite2 (fun e => ?_) (fun e => ?_)
      · walk_at "go"
        refine ⟨p, g, rfl, hP3, fun H4 R x gR hf4 hb4 hR hP4 kp4 => ?_⟩
        walk_at "go"
        exact ⟨R, x, rfl, gR, hf4, hb4, hR, hP4⟩
      · walk_at "go"
        exact ⟨R, x, rfl, gR, hf4, hb4, hR.tx (kp3.tx2 hP2), hP3⟩
    clear hR hP2 hP1 sm1 hf4 hb4 gR kp2 hS
    rintro σ H2 ⟨R, x, rfl, gR, hf4, hb4, hR, hP2⟩
    obtain ⟨pf, pb, pt, hx, hft, hbt, htt⟩ := id hR
    obtain ⟨xf, hf1, hf2, hf3⟩ := id hft
    obtain ⟨xb, hb1, hb2, hb3⟩ := id hbt
    walk_at "go"
    refine w_new (by simp) fun d1 hd1 => ?_
    walk_at "go"
    refine w_new (by simp) fun d2 hd2 => ?_
    walk_at "go"
    refine w_new (by simp) fun d3 hd3 => ?_
    have k1 : upd (upd (upd H2 d1 (.lst [V.int 0])) d2 (.lst [V.int 0])) d3 (.lst [.ref d1, .ref d2, vS []]) d1 = some (.lst [V.int 0]) := by
      have b0 : upd H2 d1 (.lst [V.int 0]) d1 = some (.lst [V.int 0]) := upd_same
      have b1 := get_ne (o := HO.lst [V.int 0]) (ne_of_none b0 hd2) b0
      exact get_ne (ne_of_none b1 hd3) b1
    have k2 : upd (upd (upd H2 d1 (.lst [V.int 0])) d2 (.lst [V.int 0])) d3 (.lst [.ref d1, .ref d2, vS []]) d2 = some (.lst [V.int 0]) := get_ne (ne_of_none upd_same hd3) upd_same
    have sm3 : Same H2 (upd (upd (upd H2 d1 (.lst [V.int 0])) d2 (.lst [V.int 0])) d3 (.lst [.ref d1, .ref d2, vS []])) := Same.new' (Same.new' (same_new hd1) hd2) hd3
    walk_at "go"
    refine ⟨x, d3, R, [], rfl, hR.tx (Tx.of_same sm3), gR, ⟨(fun c hc => nomatch hc), by simp⟩, ⟨d1, d2, upd_same, k1, k2⟩, fun H4 sm4 => ?_⟩
    have sm24 := sm3.trans sm4
    have hP4 := hP2.same sm24
    have hR4 := hR.tx (Tx.of_same sm24)
    walk_at "go"
    refine ⟨p, g, 9, rfl, hP4, by omega, by omega, fun H5 r5 hr5 hP5 kp5 => ?_⟩
    walk_at "go"
    rw [show (1 : Int) + (r5 : Int) = ((r5 + 1 : Nat) : Int) by omega]
    refine ⟨p, g, R.letters, r5 + 1, rfl, hP5, gR.l0, gR.l1, by omega, by omega, fun H6 sh hsl hsm hP6 kp6 => ?_⟩
    have hR6 := hR4.tx ((kp5.trans kp6).tx2 hP4)
    have gsh : GoodT R.letters sh := ⟨hsm, by omega⟩
    walk_at "go"
    refine ⟨x, R, sh, rfl, hR6, gR, gsh, fun H7 du da db f1 f2 f3 sm7 e1 e2 e3 => ?_⟩
    have hR7 := hR6.tx (Tx.of_same sm7)
    have hP7 := hP6.same sm7
    walk_at "go"
    refine ⟨x, du, R, sh, rfl, hR7, gR, gsh, ⟨da, db, e1, e2, e3⟩, fun H8 sm8 => ?_⟩
    have hP8 := hP7.same sm8
    have hR8 := hR7.tx (Tx.of_same sm8)
    have k8 := (DK.mk' hP6 f1 f2 f3 e1 e2 e3).same sm8
    clear sm8 sm7 e1 e2 e3 hR7 hR6 hP7 hP6 hP5 hP4 kp5 kp6 sm24 sm3 sm4 k1 k2 f1 f2 f3 hd1 hd2 hd3 hR4 hR hP2 hx hft hbt htt hf1 hf2 hf3 hb1 hb2 hb3
    walk_at "go"
    refine ⟨p, g, 41, rfl, hP8, by omega, by omega, fun H9 r9 hr9 hP9 kp9 => ?_⟩
    have hR9 := hR8.tx (kp9.tx2 hP8)
    have k9 := k8.kp kp9
    walk_at "go"
    rw [show (20 : Int) + (r9 : Int) = ((r9 + 20 : Nat) : Int) by omega]
    refine w_cut (fun σ H' => ∃ m : Nat, σ = [some (.ref a), some (.ref p), some (.ref x), some (vS R.letters), some (vS sh), some (.ref du), some (vI m), none, none, none, none, none, none, none, none, none] ∧ 20 ≤ m ∧ m ≤ 2000 ∧ RdAt K H' x R ∧ DK p g du da db R sh H' ∧ Pool2 p g H') ?_ ?_
    · walk_at "go"
      refine ⟨p, g, 11, rfl, hP9, by omega, by omega, fun HA rA hrA hPA kpA => ?_⟩
      have hRA := hR9.tx (kpA.tx2 hP9)
      have kA := k9.kp kpA
      walk_at "go"
      refine ite2 (fun e => ?_) (fun e => ?_)
      · walk_at "go"
        refine ⟨p, g, 11, rfl, hPA, by omega, by omega, fun HB rB hrB hPB kpB => ?_⟩
        walk_at "go"
        rw [show (1990 : Int) + (rB : Int) = ((rB + 1990 : Nat) : Int) by omega]
        exact ⟨rB + 1990, rfl, by omega, by omega, hRA.tx (kpB.tx2 hPA), kA.kp kpB, hPB⟩
      · walk_at "go"
        exact ⟨r9 + 20, rfl, by omega, by omega, hRA, kA, hPA⟩
    clear hR9 k9 hR8 k8 hP8 hP9 kp9
    rintro σ H1 ⟨m, rfl, m0, m1, hR1, k1, hP1⟩
    walk_at "go"
    refine ⟨p, g, R.letters, m, rfl, hP1, gR.l0, gR.l1, by omega, by omega, fun H2 tx htl htm hP2 kp2 => ?_⟩
    have hR2 := hR1.tx (kp2.tx2 hP1)
    have k2 := k1.kp kp2
    have gtx : GoodT R.letters tx := ⟨htm, by omega⟩
    walk_at "go"
    refine ⟨x, R, tx, rfl, hR2, gR, gtx, fun H3 lo la lb f1 f2 f3 sm3 e1 e2 e3 => ?_⟩
    have hR3 := hR2.tx (Tx.of_same sm3)
    have hP3 := hP2.same sm3
    have k3 := k2.same sm3
    have j3 := DK.mk' hP2 f1 f2 f3 e1 e2 e3
    walk_at "go"
    refine ⟨x, lo, R, tx, rfl, hR3, gR, gtx, j3.at, fun H4 sm4 => ?_⟩
    have hR4 := hR3.tx (Tx.of_same sm4)
    have hP4 := hP3.same sm4
    have k4 := k3.same sm4
    have j4 := j3.same sm4
    clear hR3 hP3 k3 j3 hR2 hP2 k2 hR1 hP1 k1 kp2 sm3 sm4 e1 e2 e3 f1 f2 f3
    walk_at "go"
    refine ⟨p, g, rfl, hP4, fun H5 C y gC c2 _ _ hC hP5 kp5 => ?_⟩
    have hR5 := hR4.tx (kp5.tx2 hP4)
    have k5 := k4.kp kp5
    have j5 := j4.kp kp5
    obtain ⟨cf, cb, ct, hy, _, _, _⟩ := id hC
    obtain ⟨c0, hc0⟩ : ∃ c0, C.letters[0]? = some c0 := ⟨_, List.getElem?_eq_getElem (by omega)⟩
    obtain ⟨c1, hc1⟩ : ∃ c1, C.letters[1]? = some c1 := ⟨_, List.getElem?_eq_getElem (by omega)⟩
    have cl6 := gC.l1
    walk_at "go"
    refine ⟨p, g, 20, rfl, hP5, by omega, by omega, fun H6 r6 hr6 hP6 kp6 => ?_⟩
    walk_at "go"
    rw [show (5 : Int) + (r6 : Int) = ((r6 + 5 : Nat) : Int) by omega]
    refine ⟨p, g, C.letters, r6 + 5, rfl, hP6, gC.l0, gC.l1, by omega, by omega, fun H7 tt hml hmm hP7 kp7 => ?_⟩
    have hR7 := hR5.tx ((kp6.trans kp7).tx2 hP5)
    have hC7 := hC.tx ((kp6.trans kp7).tx2 hP5)
    have k7 := k5.kp (kp6.trans kp7)
    have j7 := j5.kp (kp6.trans kp7)
    obtain ⟨cf', cb', ct', hy7, _, _, _⟩ := id hC7
    clear hC hR5 k5 j5 hP5 hP6 kp6 kp7 hy
    show zAddS (vS (rep 2 [c0])) (vS tt) H7 _
    rw [show rep 2 [c0] = [c0, c0] from rfl]
    refine w_addS (by show 2 + _ ≤ _; omega) ?_
    walk_at "go"
    have gtt : GoodT C.letters ([c0, c0] ++ tt ++ [c1]) := by
      refine ⟨fun c hc => ?_, by rw [List.length_append, List.length_append]; show 2 + _ + 1 ≤ _; omega⟩
      rcases List.mem_append.mp hc with hc | hc
      · rcases List.mem_append.mp hc with hc | hc
        · rcases List.mem_cons.mp hc with hc | hc
          · rw [hc]; exact List.mem_of_getElem? hc0
          · rw [List.mem_singleton.mp hc]; exact List.mem_of_getElem? hc0
        · exact hmm c hc
      · rw [List.mem_singleton.mp hc]; exact List.mem_of_getElem? hc1
    generalize [c0, c0] ++ tt ++ [c1] = tu at gtt ⊢
    walk_at "go"
    refine ⟨y, C, tu, rfl, hC7, gC, gtt, fun H8 cd ca cb2 f1 f2 f3 sm8 e1 e2 e3 => ?_⟩
    walk_at "go"
    refine ⟨y, cd, C, tu, rfl, hC7.tx (Tx.of_same sm8), gC, gtt, ⟨ca, cb2, e1, e2, e3⟩, fun H9 sm9 => ?_⟩
    have sm89 := sm8.trans sm9
    have hR9 := hR7.tx (Tx.of_same sm89)
    have hP9 := hP7.same sm89
    have k9 := k7.same sm89
    have j9 := j7.same sm89
    clear sm8 sm9 sm89 e1 e2 e3 f1 f2 f3 hC7 hR7 hP7 k7 j7 hy7
    walk_at "go"
    refine ⟨p, g, _, rfl, hP9, by omega, by omega, fun HA rA hrA hPA kpA => ?_⟩
    have hRA := hR9.tx (kpA.tx2 hP9)
    have kA := k9.kp kpA
    have jA := j9.kp kpA
    walk_at "go"
    refine ⟨x, lo, R, tx, rA, rfl, hRA, gR, gtx, jA.at, by omega, fun HB z R' smB hz' gR' hRl hne => ?_⟩
    have hRB := hRA.tx (Tx.of_same smB)
    have hPB := hPA.same smB
    have kB := kA.same smB
    have jB := jA.same smB
    have gtx' : GoodT R'.letters tx := by rw [hRl]; exact gtx
    walk_at "go"
    refine ⟨z, R', tx, rfl, hz', gR', gtx', fun HC od oa ob f1 f2 f3 smC e1 e2 e3 => ?_⟩
    have hRC := hRB.tx (Tx.of_same smC)
    have hPC := hPB.same smC
    have kC := kB.same smC
    have jC := jB.same smC
    have hzC := hz'.tx (Tx.of_same smC)
    have m1' := marks_at (R := R') (text := tx) (i := rA) (by omega)
    have m2' := marks_at (R := R) (text := tx) (i := rA) (by omega)
    have ml1 := marks_len R' tx
    have ml2 := marks_len R tx
    have jC1 := jC.h1
    generalize (marksOf R' tx).getD rA 0 = o1 at hne m1'
    generalize (marksOf R tx).getD rA 0 = o2 at hne m2'
    walk_at "go"
    rw [decide_eq_false (fun e => hne (List.head_eq_of_cons_eq e))]
    walk_at "go"
    refine ⟨z, od, R', tx, rfl, hzC, gR', gtx', ⟨oa, ob, e1, e2, e3⟩, fun HD smD => ?_⟩
    have hRD := hRC.tx (Tx.of_same smD)
    have hPD := hPC.same smD
    have kD := kC.same smD
    have jD := jC.same smD
    clear hR9 hP9 k9 j9 kpA hRA hPA kA jA hRB hPB kB jB hRC hPC kC jC hzC smB smC smD e1 e2 e3 f1 f2 f3 m1' m2' jC1
    have jD1 := jD.h1
    obtain ⟨pf, pb, pt, hx, ⟨xf, hf1, hf2, _⟩, ⟨xb, hb1, hb2, _⟩, _⟩ := id hRD
    walk_at "go"
    refine w_cut (fun σ H' => ∃ v14 v15, σ = [some (.ref a), some (.ref p), some (.ref x), some (vS R.letters), some (vS sh), some (.ref du), some (vI m), some (vS tx), some (.ref lo), some (.ref y), some (vS tu), some (vI rA), some (.ref z), some (.ref od), v14, v15] ∧ RdAt K H' x R ∧ DK p g du da db R sh H') ?_ ?_
    · walk_at "go"
      rw [hf2]
      by_cases c1 : R.forth.length ≤ 150
      · rw [decide_eq_true (by omega)]
        walk_at "go"
        rw [hb2]
        by_cases c2 : R.back.length ≤ 150
        · rw [decide_eq_true (by omega)]
          walk_at "go"
          refine ⟨p, g, x, R, rfl, hPD, hRD, gR, by omega, by omega, fun HE R2 w2 g2 hl2 hm2 hW hPE kpE => ?_⟩
          have hRE := hRD.tx (kpE.tx2 hPD)
          have kE := kD.kp kpE
          have jE := jD.kp kpE
          have gt2 : GoodT R2.letters tx := by rw [hl2]; exact gtx
          walk_at "go"
          refine ⟨w2, R2, tx, rfl, hW, g2, gt2, fun HF ad aa ab f1 f2 f3 smF e1 e2 e3 => ?_⟩
          have jF1 := (jE.same smF).h1
          have em := hm2 tx gtx.1
          have e1' := e1
          rw [em] at e1'
          walk_at "go"
          rw [decide_eq_true rfl]
          walk_at "go"
          refine ⟨w2, ad, R2, tx, rfl, hW.tx (Tx.of_same smF), g2, gt2, ⟨aa, ab, e1, e2, e3⟩, fun HG smG => ?_⟩
          have sm := smF.trans smG
          walk_at "go"
          exact ⟨_, _, rfl, hRE.tx (Tx.of_same sm), kE.same sm⟩
        · rw [decide_eq_false (by omega)]
          walk_at "go"
          exact ⟨_, _, rfl, hRD, kD⟩
      · rw [decide_eq_false (by omega)]
        walk_at "go"
        exact ⟨_, _, rfl, hRD, kD⟩
    rintro σ HH ⟨v14, v15, rfl, hRH, kH⟩
    walk_at "go"
    exact ⟨x, du, R, sh, rfl, hRH, gR, gsh, kH.at, fun H' _ => q H'⟩
end
end My
open PySem PySem.W PyProof.Rows
set_option maxHeartbeats 0 in
theorem PySem.Challenge.cw_seamsight_k10_marks_and_states_holds : PySem.Challenge.rw_seamsight_k10_marks_and_states.Holds := by
  w_on; o_law; k_head; (case hw => w_witness2)
  k_fill
  refine L2.walk_of (l := PySem.Challenge.rw_seamsight_k10_marks_and_states) (n := 63) (k := 5) (x := "script") (CX := fun _ => L2.CX0) (sp := fun w => My.spLaw _) rfl (by decide) rfl ⟨rfl, by decide, by decide⟩ (fun w h Y => PySem.W.kIn_of Y) ?F (fun _ _ a ns hl _ hS => ⟨a, ns, rfl, hS, hl, fun _ => rfl⟩) (fun _ _ _ _ _ h => h)
  case F =>
    intro w mg fa h KX G hmg
    change mg "law" = some (.ref fa) at hmg
    have b_abs : mg "abs" = none := by
      refine PySem.W.mg_none_of KX G ?_
      k_is
    have b_bool : mg "bool" = none := by
      refine PySem.W.mg_none_of KX G ?_
      k_is
    have b_enumerate : mg "enumerate" = none := by
      refine PySem.W.mg_none_of KX G ?_
      k_is
    have b_int : mg "int" = none := by
      refine PySem.W.mg_none_of KX G ?_
      k_is
    have b_isinstance : mg "isinstance" = none := by
      refine PySem.W.mg_none_of KX G ?_
      k_is
    have b_len : mg "len" = none := by
      refine PySem.W.mg_none_of KX G ?_
      k_is
    have b_list : mg "list" = none := by
      refine PySem.W.mg_none_of KX G ?_
      k_is
    have b_range : mg "range" = none := by
      refine PySem.W.mg_none_of KX G ?_
      k_is
    have b_sorted : mg "sorted" = none := by
      refine PySem.W.mg_none_of KX G ?_
      k_is
    have b_str : mg "str" = none := by
      refine PySem.W.mg_none_of KX G ?_
      k_is
    have b_tuple : mg "tuple" = none := by
      refine PySem.W.mg_none_of KX G ?_
      k_is
    have F_letter_places : My.At (My.kOf KX) mg "letter_places" My.s_letter_places := by
      unfold My.kOf
      refine' My.at_mk KX G ?a ?l ?c ?k
      (case a => k_is)
      (case l => k_is)
      (case c => k_is)
      (case k => k_is)
    have F_letter_numbers : My.At (My.kOf KX) mg "letter_numbers" My.s_letter_numbers := by
      unfold My.kOf
      refine' My.at_mk KX G ?a ?l ?c ?k
      (case a => k_is)
      (case l => k_is)
      (case c => k_is)
      (case k => k_is)
    have F_states_along : My.At (My.kOf KX) mg "states_along" My.s_states_along := by
      unfold My.kOf
      refine' My.at_mk KX G ?a ?l ?c ?k
      (case a => k_is)
      (case l => k_is)
      (case c => k_is)
      (case k => k_is)
    have F_forth_states : My.At (My.kOf KX) mg "forth_states" My.s_forth_states := by
      unfold My.kOf
      refine' My.at_mk KX G ?a ?l ?c ?k
      (case a => k_is)
      (case l => k_is)
      (case c => k_is)
      (case k => k_is)
    have F_back_states : My.At (My.kOf KX) mg "back_states" My.s_back_states := by
      unfold My.kOf
      refine' My.at_mk KX G ?a ?l ?c ?k
      (case a => k_is)
      (case l => k_is)
      (case c => k_is)
      (case k => k_is)
    have F_marks_by : My.At (My.kOf KX) mg "marks_by" My.s_marks_by := by
      unfold My.kOf
      refine' My.at_mk KX G ?a ?l ?c ?k
      (case a => k_is)
      (case l => k_is)
      (case c => k_is)
      (case k => k_is)
    have F__law_pool : My.At (My.kOf KX) mg "_law_pool" My.s__law_pool := by
      unfold My.kOf
      refine' My.at_mk KX G ?a ?l ?c ?k
      (case a => k_is)
      (case l => k_is)
      (case c => k_is)
      (case k => k_is)
    have F__law_draw : My.At (My.kOf KX) mg "_law_draw" My.s__law_draw := by
      unfold My.kOf
      refine' My.at_mk KX G ?a ?l ?c ?k
      (case a => k_is)
      (case l => k_is)
      (case c => k_is)
      (case k => k_is)
    have F__law_letters : My.At (My.kOf KX) mg "_law_letters" My.s__law_letters := by
      unfold My.kOf
      refine' My.at_mk KX G ?a ?l ?c ?k
      (case a => k_is)
      (case l => k_is)
      (case c => k_is)
      (case k => k_is)
    have F__law_moves : My.At (My.kOf KX) mg "_law_moves" My.s__law_moves := by
      unfold My.kOf
      refine' My.at_mk KX G ?a ?l ?c ?k
      (case a => k_is)
      (case l => k_is)
      (case c => k_is)
      (case k => k_is)
    have F__law_readers : My.At (My.kOf KX) mg "_law_readers" My.s__law_readers := by
      unfold My.kOf
      refine' My.at_mk KX G ?a ?l ?c ?k
      (case a => k_is)
      (case l => k_is)
      (case c => k_is)
      (case k => k_is)
    have F__law_counter : My.At (My.kOf KX) mg "_law_counter" My.s__law_counter := by
      unfold My.kOf
      refine' My.at_mk KX G ?a ?l ?c ?k
      (case a => k_is)
      (case l => k_is)
      (case c => k_is)
      (case k => k_is)
    have F__law_wide : My.At (My.kOf KX) mg "_law_wide" My.s__law_wide := by
      unfold My.kOf
      refine' My.at_mk KX G ?a ?l ?c ?k
      (case a => k_is)
      (case l => k_is)
      (case c => k_is)
      (case k => k_is)
    have F__law_text : My.At (My.kOf KX) mg "_law_text" My.s__law_text := by
      unfold My.kOf
      refine' My.at_mk KX G ?a ?l ?c ?k
      (case a => k_is)
      (case l => k_is)
      (case c => k_is)
      (case k => k_is)
    have F__law_doubled : My.At (My.kOf KX) mg "_law_doubled" My.s__law_doubled := by
      unfold My.kOf
      refine' My.at_mk KX G ?a ?l ?c ?k
      (case a => k_is)
      (case l => k_is)
      (case c => k_is)
      (case k => k_is)
    have F__law_along : My.At (My.kOf KX) mg "_law_along" My.s__law_along := by
      unfold My.kOf
      refine' My.at_mk KX G ?a ?l ?c ?k
      (case a => k_is)
      (case l => k_is)
      (case c => k_is)
      (case k => k_is)
    have F__law_due : My.At (My.kOf KX) mg "_law_due" My.s__law_due := by
      unfold My.kOf
      refine' My.at_mk KX G ?a ?l ?c ?k
      (case a => k_is)
      (case l => k_is)
      (case c => k_is)
      (case k => k_is)
    have F__law_states_told : My.At (My.kOf KX) mg "_law_states_told" My.s__law_states_told := by
      unfold My.kOf
      refine' My.at_mk KX G ?a ?l ?c ?k
      (case a => k_is)
      (case l => k_is)
      (case c => k_is)
      (case k => k_is)
    have F__law_holds : My.At (My.kOf KX) mg "_law_holds" My.s__law_holds := by
      unfold My.kOf
      refine' My.at_mk KX G ?a ?l ?c ?k
      (case a => k_is)
      (case l => k_is)
      (case c => k_is)
      (case k => k_is)
    have F__law_changed : My.At (My.kOf KX) mg "_law_changed" My.s__law_changed := by
      unfold My.kOf
      refine' My.at_mk KX G ?a ?l ?c ?k
      (case a => k_is)
      (case l => k_is)
      (case c => k_is)
      (case k => k_is)
    refine' My.fin_of (st := My.s_law) KX G hmg ?a ?l ?c ?k (fun s v => .of_eq rfl) (fun f fd F base => ?_)
    (case a => k_is)
    (case l => k_is)
    (case c => k_is)
    (case k => k_is)
    have c_letter_places := My.ok_letter_places (P := (PySem.Challenge.rw_seamsight_k10_marks_and_states).prog) (w := w) (base := base)  F_letter_places b_enumerate
    have c_letter_numbers := My.ok_letter_numbers (P := (PySem.Challenge.rw_seamsight_k10_marks_and_states).prog) (w := w) (base := base) c_letter_places F_letter_numbers 
    have c_states_along := My.ok_states_along (P := (PySem.Challenge.rw_seamsight_k10_marks_and_states).prog) (w := w) (base := base)  F_states_along 
    have c_forth_states := My.ok_forth_states (P := (PySem.Challenge.rw_seamsight_k10_marks_and_states).prog) (w := w) (base := base) c_letter_numbers c_states_along F_forth_states b_tuple
    have c_back_states := My.ok_back_states (P := (PySem.Challenge.rw_seamsight_k10_marks_and_states).prog) (w := w) (base := base) c_letter_numbers c_states_along F_back_states b_tuple
    have c_marks_by := My.ok_marks_by (P := (PySem.Challenge.rw_seamsight_k10_marks_and_states).prog) (w := w) (base := base) c_letter_numbers c_states_along F_marks_by b_enumerate
    have c__law_pool := My.ok__law_pool (P := (PySem.Challenge.rw_seamsight_k10_marks_and_states).prog) (w := w) (base := base)  F__law_pool b_len b_abs b_int
    have c__law_draw := My.ok__law_draw (P := (PySem.Challenge.rw_seamsight_k10_marks_and_states).prog) (w := w) (base := base)  F__law_draw b_len b_int
    have c__law_letters := My.ok__law_letters (P := (PySem.Challenge.rw_seamsight_k10_marks_and_states).prog) (w := w) (base := base) c__law_draw F__law_letters b_list b_len b_range b_sorted
    have c__law_moves := My.ok__law_moves (P := (PySem.Challenge.rw_seamsight_k10_marks_and_states).prog) (w := w) (base := base) c__law_draw F__law_moves b_range b_tuple
    have c__law_readers := My.ok__law_readers (P := (PySem.Challenge.rw_seamsight_k10_marks_and_states).prog) (w := w) (base := base) c__law_letters c__law_draw c__law_moves F__law_readers b_len b_range b_tuple
    have c__law_counter := My.ok__law_counter (P := (PySem.Challenge.rw_seamsight_k10_marks_and_states).prog) (w := w) (base := base) c__law_letters c__law_draw F__law_counter b_len b_range b_tuple
    have c__law_wide := My.ok__law_wide (P := (PySem.Challenge.rw_seamsight_k10_marks_and_states).prog) (w := w) (base := base) c__law_letters c__law_draw F__law_wide b_range b_tuple b_int
    have c__law_text := My.ok__law_text (P := (PySem.Challenge.rw_seamsight_k10_marks_and_states).prog) (w := w) (base := base) c__law_draw F__law_text b_len b_range
    have c__law_doubled := My.ok__law_doubled (P := (PySem.Challenge.rw_seamsight_k10_marks_and_states).prog) (w := w) (base := base) c__law_draw F__law_doubled b_range b_tuple b_len
    have c__law_along := My.ok__law_along (P := (PySem.Challenge.rw_seamsight_k10_marks_and_states).prog) (w := w) (base := base)  F__law_along 
    have c__law_due := My.ok__law_due (P := (PySem.Challenge.rw_seamsight_k10_marks_and_states).prog) (w := w) (base := base) c__law_along F__law_due b_len b_range
    have c__law_states_told := My.ok__law_states_told (P := (PySem.Challenge.rw_seamsight_k10_marks_and_states).prog) (w := w) (base := base)  F__law_states_told b_len b_range b_isinstance b_tuple b_int b_bool
    have c__law_holds := My.ok__law_holds (P := (PySem.Challenge.rw_seamsight_k10_marks_and_states).prog) (w := w) (base := base) c_marks_by c__law_states_told c_forth_states c_back_states F__law_holds b_isinstance b_str
    have c__law_changed := My.ok__law_changed (P := (PySem.Challenge.rw_seamsight_k10_marks_and_states).prog) (w := w) (base := base)  F__law_changed b_list b_tuple
    exact My.ok_law c__law_pool c__law_readers c__law_draw c__law_wide c__law_holds c__law_text c__law_due c__law_counter c__law_changed c__law_doubled F b_len
