import PyProof.Rows.All
import Wide.All
import OpenK.AllK
import Wide.FinOn
import HandS.ForMost
import HandS.TupAny
import HandS.IsInst
import HandS.Walk
import HandS.Small
import HandS.Conv
import PySem.Challenge.RW_seamsight_k07_least_texts_counts
set_option Elab.async false
set_option linter.all false
set_option maxRecDepth 100000
set_option maxHeartbeats 4000000
namespace My
open PySem PySem.Spec PyProof.Rows L2

/-! ## texts as lists of codes -/
abbrev S (l : List Nat) : Str := ⟨l.toArray⟩
theorem S_len (l : List Nat) : (S l).length = l.length := by simp [Str.length]
theorem S_tl (l : List Nat) : (S l).cps.toList = l := rfl
theorem exS (x : Str) : x = S x.cps.toList := (TL.mk_tl x).symm
theorem S_inj {a b : List Nat} : S a = S b ↔ a = b := by
  constructor
  · intro h
    have := congrArg (fun x : Str => x.cps.toList) h
    simpa using this
  · intro h
    rw [h]
theorem S_app (a b : List Nat) : S a ++ S b = S (a ++ b) := TL.ext_tl (by rw [TL.tl_append])
theorem S_cut (l : List Nat) (lo hi : Option Int) : cutS (S l) lo hi = S ((l.drop (HT.sIx l.length 0 lo)).take (HT.sIx l.length l.length hi - HT.sIx l.length 0 lo)) := by
  unfold cutS
  rw [S_len]
def cutL {α : Type} (l : List α) (lo hi : Option Int) : List α := (l.drop (HT.sIx l.length 0 lo)).take (HT.sIx l.length l.length hi - HT.sIx l.length 0 lo)
theorem cutV_map {α : Type} (f : α → V) (l : List α) (lo hi : Option Int) : cutV (l.map f) lo hi = (cutL l lo hi).map f := by
  unfold cutV cutL
  rw [List.length_map, ← List.map_drop, ← List.map_take]
abbrev vS (l : List Nat) : V := .str (S l)
theorem line_eq : sizeLine = 16777216 := sizeLine_eq

/-! ## operations on texts, told by lists -/
def zAddS : R2 := fun x y H Q => ∃ a b, x = vS a ∧ y = vS b ∧ a.length + b.length ≤ 16777216 ∧ Q (vS (a ++ b)) H
theorem op_addS {X : Cx} : OpR X (binaryOp .Add) zAddS := by
  intro pins s σ H x y v u Q I rx ry h
  obtain ⟨a, b, rfl, rfl, hz, q⟩ := h
  refine op_add_str pins s σ H _ _ v u Q I rx ry ⟨S a, S b, rfl, rfl, by rw [S_len, S_len, line_eq]; exact hz, ?_⟩
  rw [S_app]
  exact q
theorem foldl_app (x : Array Nat) : ∀ (n : Nat) (a : Array Nat), (List.replicate n x).foldl (· ++ ·) a = (a.toList ++ (List.replicate n x.toList).flatten).toArray
  | 0, a => by simp
  | n + 1, a => by
    rw [List.replicate_succ, List.foldl_cons, foldl_app x n (a ++ x), List.replicate_succ, List.flatten_cons, Array.toList_append, List.append_assoc]
def rep {α : Type} (n : Int) (l : List α) : List α := (List.replicate n.toNat l).flatten
theorem rep_len {α : Type} (n : Int) (l : List α) : (rep n l).length = n.toNat * l.length := by
  unfold rep
  simp
def zMulS : R2 := fun x y H Q => ∃ (l : List Nat) (n : Int), x = vS l ∧ y = .int n ∧ -100000000 ≤ n ∧ n ≤ 100000000 ∧ l.length * n.toNat ≤ 16777216 ∧ Q (vS (rep n l)) H
theorem op_mulS {X : Cx} : OpR X (binaryOp .Mult) zMulS := by
  intro pins s σ H x y v u Q I rx ry h
  obtain ⟨l, n, rfl, rfl, h1, h2, hz, q⟩ := h
  obtain ⟨t, rfl⟩ := rx
  obtain ⟨t', rfl⟩ := ry
  refine PySem.P.mul_str (x := S l) (n := n) ?_ (fun g1 g2 => ?_) (fun g1 g2 => ?_) ?_
  · have e1 : ¬ n < -(2 ^ 63 : Int) := by omega
    have e2 : ¬ n ≥ (2 ^ 63 : Int) := by omega
    rw [decide_eq_false e1, decide_eq_false e2]
    rfl
  · rw [S_len]
    have hn : 1 ≤ n := by omega
    intro hgt
    have hle : (l.length : Int) * n ≤ 16777216 := by
      have e : ((l.length * n.toNat : Nat) : Int) ≤ ((16777216 : Nat) : Int) := Int.ofNat_le.mpr hz
      have e2 : ((n.toNat : Nat) : Int) = n := by omega
      rw [Int.natCast_mul, e2] at e
      exact e
    have hl : (l.length : Int) ≤ 16777216 := by
      have hmul : (l.length : Int) * 1 ≤ (l.length : Int) * n := Int.mul_le_mul_of_nonneg_left hn (by omega)
      omega
    have hdiv : (16777216 : Int) ≤ (2 ^ 63 - 1) / n := by
      rw [Int.le_ediv_iff_mul_le (by omega)]
      omega
    omega
  · rw [S_len]
    unfold Builtin.Str.tooLong
    rw [line_eq]
    exact decide_eq_false (by omega)
  · by_cases hn : n < 1
    · rw [if_pos hn]
      refine ⟨by decide, vS (rep n l), H, I.tok _, ?_, q⟩
      have e0 : n.toNat = 0 := by omega
      refine ⟨s.toks, ?_⟩
      show Value.str Str.empty s.toks = Value.str (S (rep n l)) _
      unfold rep
      rw [e0]
      rfl
    · rw [if_neg hn]
      by_cases he : (n == 1 || (S l).length == 0) = true
      · rw [if_pos he]
        have er : rep n l = l := by
          unfold rep
          simp only [Bool.or_eq_true, beq_iff_eq, S_len] at he
          rcases he with e | e
          · subst e
            simp
          · have : l = [] := List.eq_nil_of_length_eq_zero e
            subst this
            simp
        refine ⟨vS (rep n l), H, I, ⟨t, by rw [er]⟩, q⟩
      · rw [if_neg he]
        have ec : (⟨(List.replicate n.toNat (S l).cps).foldl (· ++ ·) #[]⟩ : Str) = S (rep n l) := by
          rw [foldl_app]
          rfl
        rw [ec]
        refine ⟨by rw [S_len, rep_len, Nat.mul_comm, line_eq]; exact hz, vS (rep n l), H, I.tok _, ⟨_, rfl⟩, q⟩

/-! ## enumerate of a text -/
def Ites (x : Str) : It := ⟨fun i _ => i < x.cps.size, fun i H v H' => ∃ T c, v = .ref T ∧ H T = none ∧ H' = upd H T (.tup [.int (i : Nat), .str ⟨#[c]⟩]) ∧ x.cps[i]? = some c, fun i _ => i = x.cps.size⟩
theorem turn_enumS {P : Program} {w : World} {K : PySem.W.Frag} {elts : List Expr} {kk : Nat} {tpos : Pos} (e it : Addr) (x : Str) (t : Tok) (ty : String) (hty : ty = "str_ascii_iterator" ∨ ty = "str_iterator") :
    Turn P w K (.Tuple elts kk tpos) (Ites x) [e, it] e (fun i h => (∃ old, IsEnum h e it ((i : Nat) : Int) old) ∧ h.IsStrIter it ty x t i ∧ e ≠ it) where
  mem := by simp
  obj := fun i h st b hb => by
    obtain ⟨⟨old, he⟩, ⟨o, ho, hc, hd⟩, _⟩ := st
    have e' : b = e ∨ b = it := by simpa using hb
    rcases e' with z | z
    · rw [z]; exact ⟨_, he, fun v q => nomatch q⟩
    · rw [z]; exact ⟨o, ho, fun v q => by rw [hd] at q; cases q⟩
  keep := fun i h h' st k => let ⟨⟨old, he⟩, ⟨o, ho, r⟩, hne⟩ := st; ⟨⟨old, k e (by simp) _ he⟩, ⟨o, k it (by simp) o ho, r⟩, hne⟩
  item := by
    intro X hP hw hK hc i pins s σ H E I hf st hg
    subst hP hw hK
    obtain ⟨⟨old, he⟩, hit, hne⟩ := st
    have hel : e < s.heap.objs.size := Heap.lt_size he
    have hil : it < s.heap.objs.size := by obtain ⟨_, q, _⟩ := hit; exact Heap.lt_size q
    have D : Draws X.prog X.w X.A.in1 it [it] x.cps.size (fun i v => ∃ c u, x.cps[i]? = some c ∧ v = .str ⟨#[c]⟩ u) (fun i h => h.IsStrIter it ty x t i) := by
      rcases hty with q | q
      · rw [q]; exact Draws.strAscii (A := X.A.in1) (I.ok.hd hc) it x t
      · rw [q]; exact Draws.strWide (A := X.A.in1) (I.ok.hd hc) it x t
    refine wpAny_pyNext_enum_itemD D he hit hg hne (by simpa using hne) fun v h' tk hv ho hit' hT hsz hk => ?_
    obtain ⟨c, u, hcx, rfl⟩ := hv
    refine ⟨_, rfl, wpAny_letOwnedTupleGo_enum (s := { s with heap := h', toks := tk + 1 }) ho fun h'' he' sb => ?_⟩
    have hT2 : h''.get? s.heap.objs.size = some { cls := .type "tuple", data := .seq #[.int i tk, .str ⟨#[c]⟩ u] } := (sb.2 _ (Nat.ne_of_gt hel)).trans hT
    have new : ObjOk X.prog X.w (upd H s.heap.objs.size (.tup [.int (i : Nat), .str ⟨#[c]⟩])) h'' s.heap.objs.size (.tup [.int (i : Nat), .str ⟨#[c]⟩]) :=
      ⟨by show 2 ≤ sizeLine; decide, [.int i tk, .str ⟨#[c]⟩ u], .cons ⟨_, rfl⟩ (.cons ⟨_, rfl⟩ .nil), ⟨_, hT2, rfl, _, rfl⟩⟩
    have I1 : Inv X pins σ (upd H s.heap.objs.size (.tup [.int (i : Nat), .str ⟨#[c]⟩])) { s with heap := h'', toks := tk + 1 } :=
      I.turnedNew (ch := [e, it]) (fun b ob hb q => (sb.2 b (fun z => hb (by simp [z]))).trans (hk b ob (fun z => hb (by simp [z])) (fun z => hb (by simp [z])) q)) hf (Nat.le_refl _) new
    refine ⟨.ref s.heap.objs.size, _, I1, rfl, ⟨_, c, rfl, I.hok.fresh (Nat.le_refl _), rfl, hcx⟩, ⟨⟨.str ⟨#[c]⟩ u, ?_⟩, ?_, hne⟩, fun b hb => ?_⟩
    · have e1 : ((i + 1 : Nat) : Int) = (i : Int) + 1 := by omega
      rw [e1]; exact he'
    · obtain ⟨o, q, r⟩ := hit'
      exact ⟨o, (sb.2 it (Ne.symm hne)).trans q, r⟩
    · have hb' : b < s.heap.objs.size := by
        have e' : b = e ∨ b = it := by simpa using hb
        rcases e' with z | z
        · rw [z]; exact hel
        · rw [z]; exact hil
      rw [upd_ne (Nat.ne_of_lt hb')]
      exact (hf b hb).1
  done := by
    intro X hP hw hK hc i pins s σ H E I hf st hg
    subst hP hw hK
    obtain ⟨⟨old, he⟩, hit, hne⟩ := st
    obtain ⟨f0, f1, f2, f3, f4, f5⟩ := hf it (by simp)
    have hi : i = x.cps.size := hg
    subst hi
    have D : Draws X.prog X.w X.A.in1 it [it] x.cps.size (fun i v => ∃ c u, x.cps[i]? = some c ∧ v = .str ⟨#[c]⟩ u) (fun i h => h.IsStrIter it ty x t i) := by
      rcases hty with q | q
      · rw [q]; exact Draws.strAscii (A := X.A.in1) (I.ok.hd hc) it x t
      · rw [q]; exact Draws.strWide (A := X.A.in1) (I.ok.hd hc) it x t
    exact wpAny_pyNext_enum_endD D he hit fun h' eb => ⟨rfl, I.turned (t' := s.toks) (fun b o hb q => eb b o hb q) f0 f1 f3 f4 f5⟩
  self := fun A i s Q E st h => let ⟨⟨_, he⟩, _⟩ := st; wpAny_pyIter_enum he h
def iEnumS (ta : TA) : TI := fun σ H R => ta σ H fun vs H1 => ∃ x, vs = [.str x] ∧ R (Ites x) H1
theorem pi_enumS {X : Cx} {e : Expr} {ta : TA} {p pos tpos : Pos} {elts : List Expr} {kk : Nat} (hg : Gl X "enumerate") (hm : X.mg "enumerate" = none) (ha : PA X [e] ta) (hs : starEach [e] X.env = [(false, eval e X.env)] := by rfl) :
    PI X (.Tuple elts kk tpos) (.Call (.Name "enumerate" p) [e] [] pos) (iEnumS ta) := by
  refine ⟨fun pins s σ H R I h => ?_⟩
  refine Call_ (ld_blt I hg hm boot_enumerate (PyProof.Rows.callWith_type1 (thn (ha.run pos pins s σ H _ I h) fun us s1 ⟨vs, H1, I1, r1, q1⟩ => ?_) hs rfl))
  obtain ⟨x, ex, q⟩ := q1
  subst ex
  cases r1 with
  | cons r rr =>
    cases rr
    obtain ⟨t, rfl⟩ := r
    refine call_enumerate_str fun h' he hit hsz hk => wpAny_pyIter_enum he ?_
    have I2 : Inv X pins σ H1 { s1 with heap := h' } := I1.kept (t' := s1.toks) hk
    have hty : strIterType x = "str_ascii_iterator" ∨ strIterType x = "str_iterator" := by
      unfold strIterType
      cases x.cps.all (· < 128) <;> simp
    refine ⟨s1.heap.objs.size + 1, [s1.heap.objs.size + 1, s1.heap.objs.size], _, _, H1, rfl, I2, turn_enumS (s1.heap.objs.size + 1) s1.heap.objs.size x t _ hty, ⟨⟨.none, he⟩, hit, Nat.succ_ne_self _⟩, fun b hb => ?_, q⟩
    have e' : b = s1.heap.objs.size + 1 ∨ b = s1.heap.objs.size := by simpa using hb
    have hle : s1.heap.objs.size ≤ b := by
      rcases e' with z | z
      · rw [z]; exact Nat.le_add_right _ _
      · rw [z]; exact Nat.le_refl _
    exact I1.fpOk hle (I1.hok.fresh hle)
theorem for_enumS {l : List Nat} {g : TG} {tb : TS} {D : Ends} {σ : L2.St} {H : Hp} (Pv : Nat → L2.St → Hp → Prop) (h0 : Pv 0 σ H)
    (hs : ∀ i c σ H T, l[i]? = some c → Pv i σ H → H T = none → g (.ref T) σ (upd H T (.tup [.int (i : Nat), vS [c]])) fun σ2 H2 => tb { D with nx := Pv (i + 1), ct := Pv (i + 1), bk := D.nx } σ2 H2) (hd : ∀ σ H, Pv l.length σ H → D.nx σ H) :
    ∃ W : Nat → Nat → L2.St → Hp → Prop, (∃ m, W 0 m σ H) ∧ ∀ i m σ H, W i m σ H →
      ((Ites (S l)).stop i H ∧ D.nx σ H) ∨ ((Ites (S l)).go i H ∧ ∃ N : L2.St → Hp → Prop, (∀ σ' H', N σ' H' → ∃ m', m' < m ∧ W (i + 1) m' σ' H') ∧ ∀ x H', (Ites (S l)).yld i H x H' → g x σ H' fun σ2 H2 => tb { D with nx := N, ct := N, bk := D.nx } σ2 H2) := by
  refine ⟨fun i m σ H => m = l.length - i ∧ i ≤ l.length ∧ Pv i σ H, ⟨l.length, by simp, Nat.zero_le _, h0⟩, ?_⟩
  rintro i m σ H ⟨rfl, hi, p⟩
  by_cases hlt : i < l.length
  · refine .inr ⟨by simpa [Ites] using hlt, Pv (i + 1), fun σ' H' p' => ⟨l.length - (i + 1), by omega, rfl, hlt, p'⟩, fun x H' y => ?_⟩
    obtain ⟨T, c, rfl, hT, rfl, hc⟩ := y
    exact hs i c σ H T (by simpa using hc) p hT
  · have e : i = l.length := by omega
    subst e
    exact .inl ⟨by simp [Ites], hd σ H p⟩

/-! ## named rules -/
def zEqI : R2 := rI0 fun i j => .bl (decide (i = j))
def zNeI : R2 := rI0 fun i j => .bl (!decide (i = j))
def zEqS : R2 := fun x y H Q => ∃ a b : List Nat, x = vS a ∧ y = vS b ∧ Q (.bl (decide (a = b))) H
def zNeS : R2 := fun x y H Q => ∃ a b : List Nat, x = vS a ∧ y = vS b ∧ Q (.bl (!decide (a = b))) H
theorem dec_I {i j : Int} : decide (V.int i = V.int j) = decide (i = j) := by
  by_cases h : i = j
  · subst h; simp
  · rw [decide_eq_false h, decide_eq_false (fun e => h (V.int.inj e))]
theorem dec_S {a b : List Nat} : decide (vS a = vS b) = decide (a = b) := by
  by_cases h : a = b
  · subst h; simp
  · rw [decide_eq_false h, decide_eq_false (fun e => h (S_inj.mp (V.str.inj e)))]
section
variable {X : Cx}
theorem op_eqI : OpR X (compareOp .Eq) zEqI := by
  intro pins s σ H x y v u Q I rx ry h
  obtain ⟨i, j, rfl, rfl, q⟩ := h
  exact op_eq pins s σ H _ _ v u Q I rx ry ⟨rfl, by rw [dec_I]; exact q⟩
theorem op_neI : OpR X (compareOp .NotEq) zNeI := by
  intro pins s σ H x y v u Q I rx ry h
  obtain ⟨i, j, rfl, rfl, q⟩ := h
  exact op_ne pins s σ H _ _ v u Q I rx ry ⟨rfl, by rw [dec_I]; exact q⟩
theorem op_eqS : OpR X (compareOp .Eq) zEqS := by
  intro pins s σ H x y v u Q I rx ry h
  obtain ⟨i, j, rfl, rfl, q⟩ := h
  exact op_eq pins s σ H _ _ v u Q I rx ry ⟨rfl, by rw [dec_S]; exact q⟩
theorem op_neS : OpR X (compareOp .NotEq) zNeS := by
  intro pins s σ H x y v u Q I rx ry h
  obtain ⟨i, j, rfl, rfl, q⟩ := h
  exact op_ne pins s σ H _ _ v u Q I rx ry ⟨rfl, by rw [dec_S]; exact q⟩
def zLenS : List V → Hp → VK → Prop := fun xs H Q => ∃ l, xs = [vS l] ∧ l.length ≤ 16777216 ∧ Q (.int l.length) H
theorem call_lenS : CallR X (.builtin "len") zLenS := by
  intro pins s σ H xs us Q I r h
  obtain ⟨l, rfl, hz, q⟩ := h
  refine call_len_str pins s σ H _ us Q I r ⟨S l, rfl, by rw [S_len, line_eq]; exact hz, ?_⟩
  rw [S_len]
  exact q
def zLenQ (K : PySem.W.Frag) : List V → Hp → VK → Prop := fun xs H Q => ∃ p ys, xs = [.ref p] ∧ (SqL K H p ys ∨ SqT K H p ys) ∧ Q (.int ys.length) H
theorem call_lenQ : CallR X (.builtin "len") (zLenQ X.K) := call_len_seq
def zInt1 : List V → Hp → VK → Prop := fun xs H Q => ∃ i, xs = [.int i] ∧ Q (.int i) H
theorem call_intI : CallR X (.type "int") zInt1 := by
  intro pins s σ H xs us Q I r h
  obtain ⟨i, rfl, q⟩ := h
  exact call_int1 pins s σ H _ us Q I r (.inl ⟨i, rfl, q⟩)
def zAbs : List V → Hp → VK → Prop := fun xs H Q => ∃ i : Int, xs = [.int i] ∧ Q (.int (i.natAbs : Int)) H
theorem call_absI : CallR X (.builtin "abs") zAbs := by
  intro pins s σ H xs us Q I r h
  obtain ⟨i, rfl, q⟩ := h
  refine call_abs pins s σ H _ us Q I r ⟨i, rfl, ?_⟩
  have e : (if i < 0 then -i else i) = (i.natAbs : Int) := by
    split <;> omega
  rw [e]
  exact q
def zMin2 : List V → Hp → VK → Prop := fun xs H Q => ∃ i j : Int, xs = [.int i, .int j] ∧ Q (.int (min i j)) H
theorem call_minI (hc : X.calm = true) : CallR X (.builtin "min") zMin2 := by
  intro pins s σ H xs us Q I r h
  obtain ⟨i, j, rfl, q⟩ := h
  refine call_min2 hc pins s σ H _ us Q I r ⟨i, j, rfl, ?_⟩
  have e : (if j < i then j else i) = min i j := by
    split <;> omega
  rw [e]
  exact q
def zIxS : R2 := fun x y H Q => ∃ (l : List Nat) (i : Int) (c : Nat), x = vS l ∧ y = .int i ∧ l.length ≤ 16777216 ∧ atI l i = some c ∧ Q (vS [c]) H
theorem ix_S : IxR X zIxS := by
  intro value slice pins s σ H x y v u Q I rx ry h hs
  obtain ⟨l, i, c, rfl, rfl, hz, ha, q⟩ := h
  refine ix_str value slice pins s σ H _ _ v u Q I rx ry ⟨S l, i, c, rfl, rfl, by rw [S_len, line_eq]; exact hz, ha, q⟩ hs
def zSlS : V → Option Int → Option Int → Hp → VK → Prop := fun x lo hi H Q => ∃ l, x = vS l ∧ l.length ≤ 16777216 ∧ Q (vS (cutL l lo hi)) H
theorem sl_S : SlR X zSlS := by
  intro pins s σ H x v vl vu lo hi sl Q I rx hs pl pu h
  obtain ⟨l, rfl, hz, q⟩ := h
  refine sl_str pins s σ H _ v vl vu lo hi sl Q I rx hs pl pu ⟨S l, rfl, by rw [S_len, line_eq]; exact hz, ?_⟩
  rw [S_cut]
  exact q
/-- a text not in a list of texts -/
theorem eqV_S {a b : List Nat} : eqV (vS a) (vS b) = decide (a = b) := by
  show decide (S a = S b) = decide (a = b)
  by_cases h : a = b
  · subst h; simp
  · rw [decide_eq_false h, decide_eq_false (fun e => h (S_inj.mp e))]
theorem inV_S (a : List Nat) (bs : List (List Nat)) : inV (vS a) (bs.map vS) = decide (a ∈ bs) := by
  induction bs with
  | nil => rfl
  | cons b r ih =>
    show (eqV (vS b) (vS a) || inV (vS a) (r.map vS)) = _
    rw [ih, eqV_S]
    by_cases h : b = a
    · subst h; simp
    · have h' : ¬ a = b := fun e => h e.symm
      rw [decide_eq_false h]
      simp [h']
theorem flat_S (bs : List (List Nat)) : (bs.map vS).all flatV = true := by
  rw [List.all_eq_true]
  intro x hx
  obtain ⟨b, _, rfl⟩ := List.mem_map.mp hx
  rfl
def zNinL (K : PySem.W.Frag) : R2 := fun x y H Q => ∃ (a : List Nat) (p : Addr) (bs : List (List Nat)), x = vS a ∧ y = .ref p ∧ (SqL K H p (bs.map vS) ∨ SqT K H p (bs.map vS)) ∧ Q (.bl (!decide (a ∈ bs))) H
theorem op_ninL : OpR X (compareOp .NotIn) (zNinL X.K) := by
  intro pins s σ H x y v u Q I rx ry h
  obtain ⟨a, p, bs, rfl, rfl, hp, q⟩ := h
  refine op_notIn_seq pins s σ H _ _ v u Q I rx ry ⟨p, bs.map vS, rfl, hp, rfl, flat_S bs, ?_⟩
  show Q (.bl (!inV (vS a) (bs.map vS))) H
  rw [inV_S]
  exact q
theorem joinL_nil : ∀ xs : List (List Nat), TL.joinL [] xs = xs.flatten
  | [] => rfl
  | [a] => by simp [TL.joinL]
  | a :: b :: r => by
    have ih := joinL_nil (b :: r)
    simp only [TL.joinL, List.nil_append, List.flatten_cons] at ih ⊢
    first | done | rw [ih]
/-- "".join(a list or tuple of texts) -/
def zJoin0 (K : PySem.W.Frag) : V → List V → Hp → VK → Prop := fun x xs H Q => ∃ (p : Addr) (ys : List (List Nat)), x = vS [] ∧ xs = [.ref p] ∧ (SqL K H p (ys.map vS) ∨ SqT K H p (ys.map vS)) ∧ ys.flatten.length ≤ 16777216 ∧ Q (vS ys.flatten) H
theorem map_S (ys : List (List Nat)) : ys.map vS = (ys.map S).map V.str := by
  rw [List.map_map]
  rfl
theorem mt_join0 : MtR X "str.join" (zJoin0 X.K) := by
  intro pins s σ H x xs v us Q I rx rs h
  obtain ⟨p, ys, rfl, rfl, hp, hz, q⟩ := h
  refine mt_join pins s σ H _ _ v us Q I rx rs ⟨S [], p, ys.map S, rfl, rfl, by rw [← map_S]; exact hp, ?_, ?_⟩
  · have e1 : (S []).length = 0 := rfl
    have e2 : ((ys.map S).map (·.length)).sum = ys.flatten.length := by
      rw [List.map_map, List.length_flatten]
      congr 1



    rw [e1, e2]
    exact hz
  · have e : Txt.join (S []) (ys.map S) = S ys.flatten := by
      rw [TL.join_eq]
      apply TL.ext_tl
      rw [TL.tl_join, List.map_map]
      have e3 : TL.tl (S []) = [] := rfl
      have e4 : ys.map (TL.tl ∘ S) = ys := by
        conv => rhs; rw [← List.map_id ys]
        rfl
      rw [e3, e4, joinL_nil]
    rw [e]
    exact q
/-- sorted(a list of texts), fewer than 64 -/
def zSortedS (K : PySem.W.Frag) : List V → Hp → VK → Prop := fun vs H Q => ∃ (a : Addr) (xs : List (List Nat)), vs = [V.ref a] ∧ SqL K H a (xs.map vS) ∧ xs.length < 64 ∧
  ∀ (ys : List (List Nat)) (p : Addr), ys.Perm xs → sortedS (ys.map S) = true → H p = none → Q (.ref p) (upd H p (.lst (ys.map vS)))
theorem cr_sortedT : CallR X (.builtin "sorted") (zSortedS X.K) := by
  intro pins s σ H vs us Q I r h
  obtain ⟨a, xs, rfl, hs, h64, q⟩ := h
  refine cr_sortedS pins s σ H _ us Q I r ⟨a, xs.map S, rfl, by rw [← map_S]; exact hs, by rw [List.length_map]; exact h64, fun ys p h1 h2 h3 => ?_⟩
  have e : ys.map V.str = (ys.map (fun y => y.cps.toList)).map vS := by
    rw [List.map_map]
    apply List.map_congr_left
    intro y _
    show V.str y = V.str (S y.cps.toList)
    rw [← exS]
  have e2 : (ys.map (fun y => y.cps.toList)).map S = ys := by
    rw [List.map_map]
    conv => rhs; rw [← List.map_id ys]
    apply List.map_congr_left
    intro y _
    exact (exS y).symm
  rw [e]
  refine q _ p ?_ ?_ h3
  · have h4 := h1.map (fun y : Str => y.cps.toList)
    have e5 : (xs.map S).map (fun y : Str => y.cps.toList) = xs := by
      rw [List.map_map]
      conv => rhs; rw [← List.map_id xs]
      rfl
    rw [e5] at h4
    exact h4
  · rw [e2]
    exact h2
/-- a test by truth, named -/
def tTru (K : PySem.W.Frag) (ta : TE) : TT := fun σ H Q => ta σ H fun x H' => ∃ k, TruV K x H' k ∧ Q k H'
theorem pt_tru {a : Expr} {ta : TE} (ha : PE X a ta) (he : ∀ whole, isTrue a X.env whole = (do let v ← whole; standAt a.pos; holding [v] (truthy v))) : PT X a (tTru X.K ta) := pt_truth ha he
theorem pe_strL {x : Str} {j pos} (l : List Nat) (h : x = S l) : PE X (.Constant (.str x) j pos) (tC (vS l)) := by
  have e := pe_str (X := X) (x := x) (j := j) (pos := pos)
  rw [h] at e ⊢
  exact e
end

/-! ## steps -/
section
variable {σ : L2.St} {H : Hp} {Q : VK} {D : Ends} {ta tb te tc : TE} {t u : TS} {g : TG} {v : V} {K : PySem.W.Frag}
theorem w_seq (h : t { D with nx := u D } σ H) : tSeq t u D σ H := h
theorem w_asg (h : te σ H (fun x H1 => g x σ H1 D.nx)) : tAsg te g D σ H := h
theorem w_gName {i : Nat} {Q : L2.St → Hp → Prop} (h : Q (σ.set i (some v)) H) : gName i v σ H Q := h
theorem w_gTup {K : PySem.W.Frag} {n : Nat} {ts : TGs} {a : Addr} {xs : List V} {Q : L2.St → Hp → Prop} (h1 : SqT K H a xs) (h2 : xs.length = n) (h : ts xs σ H Q) : gTup K n ts (.ref a) σ H Q := ⟨a, xs, rfl, h1, h2, h⟩
theorem w_gCons {t : TG} {u : TGs} {vs : List V} {Q : L2.St → Hp → Prop} (h : t v σ H fun σ' H' => u vs σ' H' Q) : gCons t u (v :: vs) σ H Q := ⟨v, vs, rfl, h⟩
theorem w_gNil {Q : L2.St → Hp → Prop} (h : Q σ H) : gNil [] σ H Q := ⟨rfl, h⟩
theorem w_gSub {to ti : TE} {ts : TSet} {Q : L2.St → Hp → Prop} (h : to σ H fun o H1 => ti σ H1 fun i H2 => ts o i v H2 fun H3 => Q σ H3) : gSub to ti ts v σ H Q := h
theorem w_var {i : Nat} (h1 : σ[i]? = some (some v)) (h : Q v H) : tVar i σ H Q := ⟨v, h1, h⟩
theorem w_c (h : Q v H) : tC v σ H Q := h
theorem w_op {r : R2} (h : ta σ H fun x H1 => tb σ H1 fun y H2 => r x y H2 Q) : tOp r ta tb σ H Q := h
theorem w_un {r : V → Hp → VK → Prop} (h : ta σ H fun x H1 => r x H1 Q) : tUn r ta σ H Q := h
theorem w_nil {Q : List V → Hp → Prop} (h : Q [] H) : tNil σ H Q := h
theorem w_cons {tr : TA} {Q : List V → Hp → Prop} (h : ta σ H fun x H1 => tr σ H1 fun xs H2 => Q (x :: xs) H2) : tCons ta tr σ H Q := h
theorem w_CB {r : List V → Hp → VK → Prop} {t : TA} (h : t σ H fun vs H1 => r vs H1 Q) : tCB r t σ H Q := h
theorem w_call {sp : Sp} {E : XK} {t : TA} (h : t σ H fun vs H1 => sp vs H1 Q E) : tCall sp [] E t σ H Q := by
  have e : (fun vs H1 => sp (vs ++ []) H1 Q E) = (fun vs H1 => sp vs H1 Q E) := by
    funext vs H1
    rw [List.append_nil]
  show t σ H fun vs H1 => sp (vs ++ []) H1 Q E
  rw [e]
  exact h
theorem w_drop (h : te σ H fun _ H1 => D.nx σ H1) : tDrop te D σ H := h
theorem w_ret (h : te σ H D.rt) : tRet te D σ H := h
theorem w_retN (h : D.rt .non H) : tRetN D σ H := h
theorem w_next (h : D.nx σ H) : tNext D σ H := h
theorem w_brk (h : D.bk σ H) : tBreak D σ H := h
theorem w_cont (h : D.ct σ H) : tCont D σ H := h
theorem w_if {c : TT} (h : c σ H fun b H1 => if b = true then t D σ H1 else u D σ H1) : tIfS c t u D σ H := h
def blQ (x : V) (H : Hp) (Q : Bool → Hp → Prop) : Prop := ∃ k, x = .bl k ∧ Q k H
theorem w_test {Q : Bool → Hp → Prop} (h : te σ H fun x H' => blQ x H' Q) : tTest te σ H Q := h
theorem w_tB {Q : Bool → Hp → Prop} (h : te σ H fun x H' => blQ x H' Q) : tB te σ H Q := h
theorem w_exbl {k : Bool} {Q : Bool → Hp → Prop} (h : Q k H) : blQ (.bl k) H Q := ⟨k, rfl, h⟩
theorem w_and {t u : TT} {Q : Bool → Hp → Prop} (h : t σ H fun c H1 => if c = true then u σ H1 Q else Q false H1) : tAnd t u σ H Q := h
theorem w_or {t u : TT} {Q : Bool → Hp → Prop} (h : t σ H fun c H1 => if c = true then Q true H1 else u σ H1 Q) : tOr t u σ H Q := h
theorem w_not {t : TT} {Q : Bool → Hp → Prop} (h : t σ H fun c H1 => Q (!c) H1) : tNot t σ H Q := h
theorem w_andV (h : ta σ H fun x H1 => blQ x H1 fun c H1 => if c = true then tb σ H1 Q else Q (.bl false) H1) : tAndV ta tb σ H Q := h
theorem w_orV (h : ta σ H fun x H1 => blQ x H1 fun c H1 => if c = true then Q (.bl true) H1 else tb σ H1 Q) : tOrV ta tb σ H Q := h
theorem w_notV (h : ta σ H fun x H1 => blQ x H1 fun c H1 => Q (.bl (!c)) H1) : tNotV ta σ H Q := h
theorem w_ifE {c : TT} (h : c σ H fun b H1 => if b = true then ta σ H1 Q else tb σ H1 Q) : tIf c ta tb σ H Q := h
def newQ (f : List V → HO) (xs : List V) (H : Hp) (Q : VK) : Prop := xs.length ≤ sizeLine ∧ ∀ p, H p = none → Q (.ref p) (upd H p (f xs))
theorem w_tup {t : TA} (h : t σ H fun xs H1 => newQ .tup xs H1 Q) : tTup t σ H Q := h
theorem w_lst {t : TA} (h : t σ H fun xs H1 => newQ .lst xs H1 Q) : tLst t σ H Q := h
theorem w_new {xs : List V} {f : List V → HO} (hl : xs.length ≤ 16777216) (h : ∀ p, H p = none → Q (.ref p) (upd H p (f xs))) : newQ f xs H Q := ⟨by rw [line_eq]; exact hl, h⟩
theorem w_sl {r : V → Option Int → Option Int → Hp → VK → Prop} {tl th : TO} (h : te σ H fun x H1 => tl σ H1 fun l H2 => th σ H2 fun u H3 => r x l u H3 Q) : tSl r te tl th σ H Q := h
theorem w_nopart {Q : Option Int → Hp → Prop} (h : Q none H) : tNoPart σ H Q := h
def intQ (x : V) (H : Hp) (Q : Option Int → Hp → Prop) : Prop := ∃ i, x = .int i ∧ Q (some i) H
theorem w_part {Q : Option Int → Hp → Prop} (h : te σ H fun x H1 => intQ x H1 Q) : tPart te σ H Q := h
theorem w_exint {i : Int} {Q : Option Int → Hp → Prop} (h : Q (some i) H) : intQ (.int i) H Q := ⟨i, rfl, h⟩
def tyQ (K : PySem.W.Frag) (T : String) (x : V) (H : Hp) (P : Prop) : Prop := tyV K T x H ∧ P
theorem w_BM {T : String} {r : V → List V → Hp → VK → Prop} {to : TE} {t : TA} (h : to σ H fun x H1 => tyQ K T x H1 (t σ H1 fun xs H2 => r x xs H2 Q)) : tBM K T r to t σ H Q := h
theorem w_BM0 {T : String} {r : V → List V → Hp → VK → Prop} {to : TE} (h : to σ H fun x H1 => tyQ K T x H1 (r x [] H1 Q)) : tBM0 K T r to σ H Q := h
theorem w_tyL {a : Addr} {xs : List V} {P : Prop} (h1 : H a = some (.lst xs)) (h : P) : tyQ K "list" (.ref a) H P := ⟨.inl ⟨rfl, _, SqL.of h1⟩, h⟩
def strQ (x : V) (P : Prop) : Prop := (∃ a, x = .str a) ∧ P
theorem w_M0 {r : V → List V → Hp → VK → Prop} (h : ta σ H fun x H1 => strQ x (r x [] H1 Q)) : tM0 r ta σ H Q := h
theorem w_M1 {r : V → List V → Hp → VK → Prop} (h : ta σ H fun x H1 => strQ x (te σ H1 fun y H2 => r x [y] H2 Q)) : tM1 r ta te σ H Q := h
theorem w_exstr {l : List Nat} {P : Prop} (h : P) : strQ (vS l) P := ⟨⟨_, rfl⟩, h⟩
def truQ (K : PySem.W.Frag) (x : V) (H : Hp) (Q : Bool → Hp → Prop) : Prop := ∃ k, TruV K x H k ∧ Q k H
theorem w_tru {Q : Bool → Hp → Prop} (h : ta σ H fun x H' => truQ K x H' Q) : tTru K ta σ H Q := h
theorem w_truL {a : Addr} {xs : List V} {Q : Bool → Hp → Prop} (h1 : SqL K H a xs) (h : Q (!xs.isEmpty) H) : truQ K (.ref a) H Q := ⟨_, .inl ⟨xs, h1, rfl⟩, h⟩
theorem w_truT {a : Addr} {xs : List V} {Q : Bool → Hp → Prop} (h1 : SqT K H a xs) (h : Q (!xs.isEmpty) H) : truQ K (.ref a) H Q := ⟨_, .inr (.inl ⟨xs, h1, rfl⟩), h⟩
theorem w_truS {l : List Nat} {Q : Bool → Hp → Prop} (h1 : l.length ≤ 16777216) (h : Q (!l.isEmpty) H) : truQ K (vS l) H Q := by
  refine ⟨_, ⟨by rw [S_len, line_eq]; exact h1, rfl⟩, ?_⟩
  rw [S_len]
  cases l with
  | nil => exact h
  | cons a r =>
    have e : (((a :: r).length : Int) != 0) = true := by
      simp
      omega
    rw [e]
    exact h
theorem w_rI0 {f : Int → Int → V} {i j : Int} (h : Q (f i j) H) : rI0 f (.int i) (.int j) H Q := ⟨i, j, rfl, rfl, h⟩
theorem w_rI {C : Int → Int → Prop} {f : Int → Int → V} {i j : Int} (hc : C i j) (h : Q (f i j) H) : rI C f (.int i) (.int j) H Q := ⟨i, j, rfl, rfl, hc, h⟩
theorem w_rU {f : Int → V} {i : Int} (h : Q (f i) H) : rU f (.int i) H Q := ⟨i, rfl, h⟩
theorem w_eqI {i j : Int} (h : Q (.bl (decide (i = j))) H) : zEqI (.int i) (.int j) H Q := ⟨i, j, rfl, rfl, h⟩
theorem w_neI {i j : Int} (h : Q (.bl (!decide (i = j))) H) : zNeI (.int i) (.int j) H Q := ⟨i, j, rfl, rfl, h⟩
theorem w_eqS {a b : List Nat} (h : Q (.bl (decide (a = b))) H) : zEqS (vS a) (vS b) H Q := ⟨a, b, rfl, rfl, h⟩
theorem w_neS {a b : List Nat} (h : Q (.bl (!decide (a = b))) H) : zNeS (vS a) (vS b) H Q := ⟨a, b, rfl, rfl, h⟩
theorem w_addS {a b : List Nat} (hc : a.length + b.length ≤ 16777216) (h : Q (vS (a ++ b)) H) : zAddS (vS a) (vS b) H Q := ⟨a, b, rfl, rfl, hc, h⟩
theorem w_mulS {a : List Nat} {n : Int} (h1 : -100000000 ≤ n) (h2 : n ≤ 100000000) (hc : a.length * n.toNat ≤ 16777216) (h : Q (vS (rep n a)) H) : zMulS (vS a) (.int n) H Q := ⟨a, n, rfl, rfl, h1, h2, hc, h⟩
theorem w_lenS {l : List Nat} (hc : l.length ≤ 16777216) (h : Q (.int l.length) H) : zLenS [vS l] H Q := ⟨l, rfl, hc, h⟩
theorem w_lenL {a : Addr} {xs : List V} (h1 : SqL K H a xs) (h : Q (.int xs.length) H) : zLenQ K [.ref a] H Q := ⟨a, xs, rfl, .inl h1, h⟩
theorem w_lenT {a : Addr} {xs : List V} (h1 : SqT K H a xs) (h : Q (.int xs.length) H) : zLenQ K [.ref a] H Q := ⟨a, xs, rfl, .inr h1, h⟩
theorem w_int {i : Int} (h : Q (.int i) H) : zInt1 [.int i] H Q := ⟨i, rfl, h⟩
theorem w_abs {i : Int} (h : Q (.int (i.natAbs : Int)) H) : zAbs [.int i] H Q := ⟨i, rfl, h⟩
theorem w_min {i j : Int} (h : Q (.int (min i j)) H) : zMin2 [.int i, .int j] H Q := ⟨i, j, rfl, h⟩
theorem w_ixS {l : List Nat} {i : Int} {c : Nat} (h1 : l.length ≤ 16777216) (h2 : atI l i = some c) (h : Q (vS [c]) H) : zIxS (vS l) (.int i) H Q := ⟨l, i, c, rfl, rfl, h1, h2, h⟩
theorem w_ixL {a : Addr} {xs : List V} {i : Int} (h1 : SqL K H a xs) (h2 : atI xs i = some v) (h : Q v H) : rIxL K (.ref a) (.int i) H Q := ⟨a, xs, i, v, rfl, rfl, h1, h2, h⟩
theorem w_ixT {a : Addr} {xs : List V} {i : Int} (h1 : SqT K H a xs) (h2 : atI xs i = some v) (h : Q v H) : rIxT K (.ref a) (.int i) H Q := ⟨a, xs, i, v, rfl, rfl, h1, h2, h⟩
theorem w_slS {l : List Nat} {lo hi : Option Int} (h1 : l.length ≤ 16777216) (h : Q (vS (cutL l lo hi)) H) : zSlS (vS l) lo hi H Q := ⟨l, rfl, h1, h⟩
theorem w_slL {a : Addr} {xs : List V} {lo hi : Option Int} (h1 : SqL K H a xs) (h : ∀ p, H p = none → Q (.ref p) (upd H p (.lst (cutL xs lo hi)))) : rSlL K (.ref a) lo hi H Q := ⟨a, xs, rfl, h1, h⟩
theorem w_append {l : Addr} {xs : List V} (h1 : H l = some (.lst xs)) (h2 : xs.length < 16777216) (h : Q .non (upd H l (.lst (xs ++ [v])))) : rAppend (.ref l) [v] H Q := ⟨l, xs, v, rfl, rfl, h1, by rw [line_eq]; exact h2, h⟩
theorem w_pop {l : Addr} {xs : List V} (h1 : H l = some (.lst (xs ++ [v]))) (h : Q v (upd H l (.lst xs))) : rPop (.ref l) [] H Q := ⟨l, xs ++ [v], v, rfl, rfl, h1, by simp, by rw [List.dropLast_concat]; exact h⟩
theorem w_setL {p : Addr} {xs : List V} {k : Int} {j : Nat} {Q : Hp → Prop} (h1 : H p = some (.lst xs)) (h2 : ixN xs.length k = some j) (h : Q (upd H p (.lst (xs.set j v)))) : rSetL (.ref p) (.int k) v H Q := ⟨p, xs, k, j, rfl, rfl, h1, h2, h⟩
theorem w_tupOfL {a : Addr} {xs : List V} (h1 : SqL K H a xs) (h : ∀ l, H l = none → Q (.ref l) (upd H l (.tup xs))) : ∃ p ys, [V.ref a] = [.ref p] ∧ ((SqL K H p ys ∧ ∀ l, H l = none → Q (.ref l) (upd H l (.tup ys))) ∨ (SqT K H p ys ∧ Q (.ref p) H)) := ⟨a, xs, rfl, .inl ⟨h1, h⟩⟩
theorem w_join0 {p : Addr} {ys : List (List Nat)} (h1 : SqL K H p (ys.map vS)) (h2 : ys.flatten.length ≤ 16777216) (h : Q (vS ys.flatten) H) : zJoin0 K (vS []) [.ref p] H Q := ⟨p, ys, rfl, rfl, .inl h1, h2, h⟩
theorem w_ninL {a : List Nat} {p : Addr} {bs : List (List Nat)} (h1 : SqL K H p (bs.map vS)) (h : Q (.bl (!decide (a ∈ bs))) H) : zNinL K (vS a) (.ref p) H Q := ⟨a, p, bs, rfl, rfl, .inl h1, h⟩
theorem w_sortedT {p : Addr} {xs : List (List Nat)} (h1 : SqL K H p (xs.map vS)) (h2 : xs.length < 64) (h : ∀ (ys : List (List Nat)) (p : Addr), ys.Perm xs → sortedS (ys.map S) = true → H p = none → Q (.ref p) (upd H p (.lst (ys.map vS)))) : zSortedS K [.ref p] H Q := ⟨p, xs, rfl, h1, h2, h⟩
theorem st_is {t : TS} {σ' : L2.St} (e : σ' = σ) (h : t D σ H) : t D σ' H := e ▸ h
end
/-! ## heaps -/
section
variable {H H' : Hp} {a b p l : Addr} {o u : HO} {xs : List V} {K : PySem.W.Frag}
theorem get_ne (h : b ≠ a) (e : H b = some u) : upd H a o b = some u := by rw [upd_ne h]; exact e
theorem none_ne (h : b ≠ a) (e : H b = none) : upd H a o b = none := by rw [upd_ne h]; exact e
theorem none_of_upd (h : upd H a o b = none) : H b = none ∧ b ≠ a := by
  by_cases e : b = a
  · subst e
    rw [upd_same] at h
    cases h
  · rw [upd_ne e] at h
    exact ⟨h, e⟩
theorem same_new (h : H p = none) : Same H (upd H p o) := fun b x e => by
  rw [upd_ne (ne_of_none e h)]
  exact e
/-- tuples (and what is locked) stay: every step of a run keeps them -/
def Tx (H H' : Hp) : Prop := ∀ b o, ((∃ xs, o = .tup xs) ∨ ∃ ob u, o = .frz ob u) → H b = some o → H' b = some o
theorem Tx.refl (H : Hp) : Tx H H := fun _ _ _ h => h
theorem Tx.trans {H1 H2 H3 : Hp} (x : Tx H1 H2) (y : Tx H2 H3) : Tx H1 H3 := fun b o k h => y b o k (x b o k h)
theorem Tx.of_same (s : Same H H') : Tx H H' := fun b o _ h => s b o h
theorem Tx.new {H0 : Hp} (x : Tx H0 H) (h : H p = none) : Tx H0 (upd H p o) := fun b u k e => by
  have e2 := x b u k e
  rw [upd_ne (ne_of_none e2 h)]
  exact e2
theorem Tx.lst {H0 : Hp} (x : Tx H0 H) (h : H l = some (.lst xs)) : Tx H0 (upd H l o) := fun b u k e => by
  have e2 := x b u k e
  have n : b ≠ l := by
    refine ne_of e2 h ?_
    rcases k with ⟨_, rfl⟩ | ⟨_, _, rfl⟩ <;> intro z <;> cases z
  rw [upd_ne n]
  exact e2
theorem Tx.sqT (x : Tx H H') (h : SqT K H a xs) : SqT K H' a xs := by
  rcases h with (h | ⟨o, h⟩) | h
  · exact .inl (.inl (x _ _ (.inl ⟨_, rfl⟩) h))
  · exact .inl (.inr ⟨o, x _ _ (.inr ⟨_, _, rfl⟩) h⟩)
  · exact .inr h
/-- all but the lists at p and g stays -/
def Kp (p g : Addr) (H H' : Hp) : Prop := ∀ b o, b ≠ p → b ≠ g → H b = some o → H' b = some o
theorem Kp.refl (p g : Addr) (H : Hp) : Kp p g H H := fun _ _ _ _ h => h
theorem Kp.trans {p g : Addr} {H1 H2 H3 : Hp} (x : Kp p g H1 H2) (y : Kp p g H2 H3) : Kp p g H1 H3 := fun b o k1 k2 h => y b o k1 k2 (x b o k1 k2 h)
theorem Kp.of_same {p g : Addr} (s : Same H H') : Kp p g H H' := fun b o _ _ h => s b o h
end

/-! ## a def that may be called -/
structure Cal (P : Program) (w : World) (K : PySem.W.Frag) (mg : Str → Option Value) (base : Heap) (k : Nat) (x : Str) (sp : Sp) : Prop where
  ex : ∃ (f : Addr) (fd : FuncData) (ps : List Str), FnOk P w K mg base CX0 k f fd ps sp ∧ mg x = some (.ref f) ∧ PySem.W.keepIn K (.ref f) = true ∧ Binds K fd ps []
theorem pe_c {X : Cx} {k j : Nat} {x : Str} {sp : Sp} {p pos : Pos} {e : Expr} {es : List Expr} {t : TA} (c : Cal X.prog X.w X.K X.mg X.base k x sp) (hr : Room j X.A) (hk : k ≤ j) (hg : Gl X x) (ha : PA X (e :: es) t)
    (hdb : (x == ("__debug__" : Str)) = false := by decide) (he : starEach (e :: es) X.env = (false, eval e X.env) :: starEach es X.env := by rfl) (hpl : (backTo pos (starEach es X.env)).any (·.1) = false := by rfl) :
    PE X (.Call (.Name x p) (e :: es) [] pos) (tCall sp [] E0 t) := by
  obtain ⟨f, fd, ps, F, hm, kp, b⟩ := c.ex
  exact pe_call F (hr.mono hk) hg hm kp b .nil pass0 ha hdb he hpl
/-- where the def stands -/
structure At (K : PySem.W.Frag) (mg : Str → Option Value) (x : Str) (st : Stmt) : Prop where
  ex : ∃ (f : Addr) (fd : FuncData), Fun K x x st f fd ∧ mg x = some (.ref f) ∧ ∀ ps : List Str, (∀ (kV doc pm : Value) (an : Option Addr) (cdv ct : Value) (us : List Value), us.length = ps.length → bindArgs (PySem.W.fnOf x x (defArgs st) (defBody st) (defScope st) .none kV doc pm an cdv ct) ⟨us, []⟩ = pure (ps.zip us)) → Binds K fd ps []
theorem At.cal {P : Program} {w : World} {K : PySem.W.Frag} {mg : Str → Option Value} {base : Heap} {x : Str} {st : Stmt} {N ps : List Str} {k : Nat} {sp : Sp} (F : At K mg x st) (S : FnScope N ps (defScope st)) (len : ∀ vs H Q E, sp vs H Q E → vs.length = ps.length)
    (hb : ∀ (kV doc pm : Value) (an : Option Addr) (cdv ct : Value) (us : List Value), us.length = ps.length → bindArgs (PySem.W.fnOf x x (defArgs st) (defBody st) (defScope st) .none kV doc pm an cdv ct) ⟨us, []⟩ = pure (ps.zip us))
    (hbody : ∀ (f : Addr) (cdv : Value) (A : Around) (outer : List Env) (s : Shared) (H : Hp) (vs : List V) (Q : VK) (E : XK), Room k (A.deeper (envOfC x (defScope st) s.heap.objs.size f cdv)) → sp vs H Q E →
      ∃ t, PSs (cxOf CX0 P w K mg base N x (defScope st) f cdv A outer s H E).nox (defBody st) t ∧ t { nx := fun _ H' => Q .non H', rt := Q } (start N vs) H) : Cal P w K mg base (k + 1) x sp := by
  obtain ⟨f, fd, F, hm, b⟩ := F.ex
  exact ⟨f, fd, ps, F.ok S len (hbody f), hm, F.kp, b ps hb⟩
section
variable {X : Cx}
def zTupL (K : PySem.W.Frag) : List V → Hp → VK → Prop := fun vs H Q => ∃ p ys, vs = [.ref p] ∧ SqL K H p ys ∧ ∀ l, H l = none → Q (.ref l) (upd H l (.tup ys))
theorem call_tupL : CallR X (.type "tuple") (zTupL X.K) := by
  intro pins s σ H xs us Q I r h
  obtain ⟨p, ys, rfl, hs, q⟩ := h
  exact call_tuple_of pins s σ H _ us Q I r ⟨p, ys, rfl, .inl ⟨hs, q⟩⟩
end
theorem w_tupL {H : Hp} {Q : VK} {K : PySem.W.Frag} {a : Addr} {xs : List V} (h1 : SqL K H a xs) (h : ∀ l, H l = none → Q (.ref l) (upd H l (.tup xs))) : zTupL K [.ref a] H Q := ⟨a, xs, rfl, h1, h⟩
abbrev kOf {K : PySem.W.Frag} {h : Heap} (_ : K.In h) : PySem.W.Frag := K
theorem at_mk {K : PySem.W.Frag} {h : Heap} {mg : Str → Option Value} {x : Str} {st : Stmt} {f : Addr} {oc : Value} {od an : Option Addr} {sl : Array (Option Value)} {kV dc pm cd ct : Value} (X : K.In h) (G : h.Ns mainGlobals mg)
    (a : PySem.W.nsIn K mainGlobals x = some (some (.ref f))) (l : K.lookup f = some ⟨oc, od, .func (PySem.W.fnOf x x (defArgs st) (defBody st) (defScope st) .none kV dc pm an cd ct), sl⟩) (c : PySem.W.codeIn K cd x = true) (k : PySem.W.keepIn K (.ref f) = true) : At K mg x st :=
  ⟨f, _, fun_mk l c k, PySem.W.mg_of X G a, fun _ h => (fun_mk l c k).binds h⟩
theorem fin_of {lw : PySem.W.OpenLaw} {w : World} {K : PySem.W.Frag} {h : Heap} {mg : Str → Option Value} {st : Stmt} {fa f : Addr} {oc : Value} {od an : Option Addr} {sl : Array (Option Value)} {kV dc pm cd ct : Value} {n : Nat} {sp : Sp} (X : K.In h) (G : h.Ns mainGlobals mg) (hfa : mg "law" = some (.ref fa))
    (a : PySem.W.nsIn K mainGlobals "law" = some (some (.ref f))) (l : K.lookup f = some ⟨oc, od, .func (PySem.W.fnOf "law" "law" (defArgs st) (defBody st) (defScope st) .none kV dc pm an cd ct), sl⟩) (c : PySem.W.codeIn K cd "law" = true) (k : PySem.W.keepIn K (.ref f) = true)
    (hb : ∀ (s : Shared) (v : Value), BindsTo s (PySem.W.fnOf "law" "law" (defArgs st) (defBody st) (defScope st) .none kV dc pm an cd ct) ⟨[v], []⟩ [("script", v)]) (hok : ∀ (f : Addr) (fd : FuncData), Fun K "law" "law" st f fd → ∀ base : Heap, FnOk lw.prog w K mg base CX0 n f fd ["script"] sp) :
    ∃ fd : FuncData, (∀ (s : Shared) (v : Value), BindsTo s fd ⟨[v], []⟩ [("script", v)]) ∧ ∀ base : Heap, K.In base → base.Ns mainGlobals mg → FnOk lw.prog w K mg base CX0 n fa fd ["script"] sp := by
  have e := hfa.symm.trans (PySem.W.mg_of X G a)
  cases e
  exact ⟨_, hb, fun base _ _ => hok _ _ (fun_mk l c k) base⟩
/-- the pool of draws: [int, the list of great numbers] -/
structure Pool (p g : Addr) (H : Hp) : Prop where
  ne : p ≠ g
  ex : ∃ (x : Int) (ns : List Int), H p = some (.lst [.int x, .ref g]) ∧ H g = some (.lst (ns.map V.int)) ∧ ns.length ≤ 1000
theorem Pool.new {p g c : Addr} {H : Hp} {o : HO} (h : Pool p g H) (hc : H c = none) : Pool p g (upd H c o) := by
  obtain ⟨ne, x, ns, h1, h2, h3⟩ := h
  exact ⟨ne, x, ns, get_ne (ne_of_none h1 hc) h1, get_ne (ne_of_none h2 hc) h2, h3⟩
theorem Pool.same {p g : Addr} {H H' : Hp} (h : Pool p g H) (s : Same H H') : Pool p g H' := by
  obtain ⟨ne, x, ns, h1, h2, h3⟩ := h
  exact ⟨ne, x, ns, s _ _ h1, s _ _ h2, h3⟩
theorem Pool.lst {p g c : Addr} {H : Hp} {o : HO} (h : Pool p g H) (h1 : c ≠ p) (h2 : c ≠ g) : Pool p g (upd H c o) := by
  obtain ⟨ne, x, ns, e1, e2, h3⟩ := h
  exact ⟨ne, x, ns, get_ne h1.symm e1, get_ne h2.symm e2, h3⟩
theorem Pool.ne1 {p g c : Addr} {H : Hp} (h : Pool p g H) (hc : H c = none) : c ≠ p := by
  obtain ⟨ne, x, ns, e1, e2, h3⟩ := h
  exact (ne_of_none e1 hc).symm
theorem Pool.ne2 {p g c : Addr} {H : Hp} (h : Pool p g H) (hc : H c = none) : c ≠ g := by
  obtain ⟨ne, x, ns, e1, e2, h3⟩ := h
  exact (ne_of_none e2 hc).symm
theorem Kp.tx {p g : Addr} {H H' : Hp} (k : Kp p g H H') (h : Pool p g H) : Tx H H' := fun b o t e => by
  obtain ⟨ne, x, ns, e1, e2, h3⟩ := h
  refine k b o ?_ ?_ e
  · refine ne_of e e1 ?_
    rcases t with ⟨_, rfl⟩ | ⟨_, _, rfl⟩ <;> intro z <;> cases z
  · refine ne_of e e2 ?_
    rcases t with ⟨_, rfl⟩ | ⟨_, _, rfl⟩ <;> intro z <;> cases z

/-! ## data without a heap -/
inductive D where
  | non | bl (b : Bool) | int (i : Int) | str (l : List Nat) | tup (ds : List D)
mutual
def Rep (K : PySem.W.Frag) (H : Hp) : D → V → Prop
  | .non, v => v = .non
  | .bl b, v => v = .bl b
  | .int i, v => v = .int i
  | .str l, v => v = vS l
  | .tup ds, v => ∃ a xs, v = .ref a ∧ SqT K H a xs ∧ Reps K H ds xs
def Reps (K : PySem.W.Frag) (H : Hp) : List D → List V → Prop
  | [], xs => xs = []
  | d :: ds, xs => ∃ x r, xs = x :: r ∧ Rep K H d x ∧ Reps K H ds r
end
mutual
def D.size : D → Nat
  | .tup ds => 1 + D.sizes ds
  | _ => 1
def D.sizes : List D → Nat
  | [] => 0
  | d :: ds => d.size + D.sizes ds
end
section
variable {K : PySem.W.Frag} {H H' : Hp}
mutual
theorem Rep.tx (x : Tx H H') : ∀ (d : D) (v : V), Rep K H d v → Rep K H' d v
  | .non, v, h => by unfold Rep at h ⊢; exact h
  | .bl b, v, h => by unfold Rep at h ⊢; exact h
  | .int i, v, h => by unfold Rep at h ⊢; exact h
  | .str l, v, h => by unfold Rep at h ⊢; exact h
  | .tup ds, v, h => by
    unfold Rep at h ⊢
    obtain ⟨a, xs, e, h1, h2⟩ := h
    exact ⟨a, xs, e, x.sqT h1, Reps.tx x ds xs h2⟩
theorem Reps.tx (x : Tx H H') : ∀ (ds : List D) (xs : List V), Reps K H ds xs → Reps K H' ds xs
  | [], xs, h => by unfold Reps at h ⊢; exact h
  | d :: ds, xs, h => by
    unfold Reps at h ⊢
    obtain ⟨y, r, e, h1, h2⟩ := h
    exact ⟨y, r, e, Rep.tx x d y h1, Reps.tx x ds r h2⟩
end
theorem Reps.len : ∀ {ds : List D} {xs : List V}, Reps K H ds xs → xs.length = ds.length
  | [], xs, h => by unfold Reps at h; rw [h]; rfl
  | d :: ds, xs, h => by
    unfold Reps at h
    obtain ⟨y, r, rfl, _, h2⟩ := h
    rw [List.length_cons, List.length_cons, Reps.len h2]
theorem Reps.get : ∀ {ds : List D} {xs : List V} {i : Nat} {d : D}, Reps K H ds xs → ds[i]? = some d → ∃ x, xs[i]? = some x ∧ Rep K H d x
  | [], _, _, _, _, e => by simp at e
  | d :: ds, xs, 0, d', h, e => by
    unfold Reps at h
    obtain ⟨y, r, rfl, h1, _⟩ := h
    have e' : d = d' := Option.some.inj e
    subst e'
    exact ⟨y, rfl, h1⟩
  | d :: ds, xs, i + 1, d', h, e => by
    unfold Reps at h
    obtain ⟨y, r, rfl, _, h2⟩ := h
    exact Reps.get (i := i) h2 e
theorem Reps.snoc : ∀ {ds : List D} {xs : List V} {d : D} {x : V}, Reps K H ds xs → Rep K H d x → Reps K H (ds ++ [d]) (xs ++ [x])
  | [], xs, d, x, h, hx => by
    unfold Reps at h
    subst h
    show Reps K H [d] [x]
    unfold Reps
    exact ⟨x, [], rfl, hx, by unfold Reps; rfl⟩
  | d0 :: ds, xs, d, x, h, hx => by
    unfold Reps at h
    obtain ⟨y, r, rfl, h1, h2⟩ := h
    show Reps K H (d0 :: (ds ++ [d])) (y :: (r ++ [x]))
    unfold Reps
    exact ⟨y, r ++ [x], rfl, h1, Reps.snoc h2 hx⟩
theorem Reps.drop : ∀ {ds : List D} {xs : List V} (n : Nat), Reps K H ds xs → Reps K H (ds.drop n) (xs.drop n)
  | ds, xs, 0, h => h
  | [], xs, n + 1, h => by
    unfold Reps at h
    subst h
    show Reps K H [] []
    unfold Reps
    rfl
  | d :: ds, xs, n + 1, h => by
    unfold Reps at h
    obtain ⟨y, r, rfl, h1, h2⟩ := h
    exact Reps.drop n h2
theorem Reps.take : ∀ {ds : List D} {xs : List V} (n : Nat), Reps K H ds xs → Reps K H (ds.take n) (xs.take n)
  | ds, xs, 0, h => by
    show Reps K H [] []
    unfold Reps
    rfl
  | [], xs, n + 1, h => by
    unfold Reps at h
    subst h
    show Reps K H [] []
    unfold Reps
    rfl
  | d :: ds, xs, n + 1, h => by
    unfold Reps at h
    obtain ⟨y, r, rfl, h1, h2⟩ := h
    show Reps K H (d :: ds.take n) (y :: r.take n)
    unfold Reps
    exact ⟨y, _, rfl, h1, Reps.take n h2⟩
theorem Reps.nil : Reps K H [] [] := by unfold Reps; rfl
theorem Reps.cons {d : D} {ds : List D} {x : V} {xs : List V} (h1 : Rep K H d x) (h2 : Reps K H ds xs) : Reps K H (d :: ds) (x :: xs) := by
  unfold Reps
  exact ⟨x, xs, rfl, h1, h2⟩
theorem Rep.str {l : List Nat} : Rep K H (.str l) (vS l) := by unfold Rep; rfl
theorem Rep.int {i : Int} : Rep K H (.int i) (.int i) := by unfold Rep; rfl
theorem Rep.bl {b : Bool} : Rep K H (.bl b) (.bl b) := by unfold Rep; rfl
theorem Rep.non : Rep K H .non .non := by unfold Rep; rfl
theorem Rep.tup {a : Addr} {ds : List D} {xs : List V} (h : SqT K H a xs) (h2 : Reps K H ds xs) : Rep K H (.tup ds) (.ref a) := by
  unfold Rep
  exact ⟨a, xs, rfl, h, h2⟩
theorem rep_str {l : List Nat} {v : V} (h : Rep K H (.str l) v) : v = vS l := by unfold Rep at h; exact h
theorem rep_int {l : Int} {v : V} (h : Rep K H (.int l) v) : v = .int l := by unfold Rep at h; exact h
theorem rep_tup {ds : List D} {v : V} (h : Rep K H (.tup ds) v) : ∃ a xs, v = .ref a ∧ SqT K H a xs ∧ Reps K H ds xs := by unfold Rep at h; exact h
theorem reps_cons {d : D} {ds : List D} {xs : List V} (h : Reps K H (d :: ds) xs) : ∃ x r, xs = x :: r ∧ Rep K H d x ∧ Reps K H ds r := by unfold Reps at h; exact h
theorem reps_nil {xs : List V} (h : Reps K H [] xs) : xs = [] := by unfold Reps at h; exact h
/-! ## isinstance -/
def tyN : D → String
  | .non => "NoneType" | .bl _ => "bool" | .int _ => "int" | .str _ => "str" | .tup _ => "tuple"
theorem tyX_T {a : Addr} {xs : List V} (h : SqT K H a xs) : TyX K H (.ref a) (.type "tuple") := by
  rcases h with (h | ⟨o, h⟩) | h
  · exact .base (.tup h)
  · exact .fTuple h
  · obtain ⟨o, its, n, e, c, _⟩ := h
    exact .kTuple e c
theorem rep_ty {d : D} {v : V} (h : Rep K H d v) : TyX K H v (.type (tyN d)) := by
  cases d with
  | non => unfold Rep at h; subst h; exact .base .non
  | bl b => unfold Rep at h; subst h; exact .base (.bl b)
  | int i => unfold Rep at h; subst h; exact .base (.int i)
  | str l => unfold Rep at h; subst h; exact .base (.str _)
  | tup ds =>
    obtain ⟨a, xs, rfl, h1, _⟩ := rep_tup h
    exact tyX_T h1
theorem w_isi {x : V} {n t : String} {b : Bool} {Q : VK} (ty : TyX K H x (.type t)) (h : kitB t n = some b) (q : Q (.bl b) H) : rIsi K [x, .ty n] H Q := ⟨x, .ty n, .type t, .type n, b, rfl, .ty n, ty, kit_ty h, q⟩
end
theorem w_eqR {x y : V} {H : Hp} {Q : VK} (h1 : scal x y = true) (h : Q (.bl (decide (x = y))) H) : rEq x y H Q := ⟨h1, h⟩
theorem w_ixAT {K : PySem.W.Frag} {H : Hp} {Q : VK} {a : Addr} {xs : List V} {i : Int} {v : V} (h1 : SqT K H a xs) (h2 : atI xs i = some v) (h : Q v H) : rIx K (.ref a) (.int i) H Q := .inr (.inl ⟨a, xs, i, v, rfl, rfl, h1, h2, h⟩)
def isNQ (x y : V) (H : Hp) (Q : VK) : Prop := y = .non ∧ Q (.bl (decide (x = .non))) H
def notNQ (x y : V) (H : Hp) (Q : VK) : Prop := y = .non ∧ Q (.bl (!decide (x = .non))) H
theorem op_isN2 {X : Cx} : OpR X (compareOp .Is) isNQ := op_isN
theorem op_notN2 {X : Cx} : OpR X (compareOp .IsNot) notNQ := op_notN
theorem w_isN {x : V} {H : Hp} {Q : VK} (h : Q (.bl (decide (x = .non))) H) : isNQ x .non H Q := ⟨rfl, h⟩
theorem w_notN {x : V} {H : Hp} {Q : VK} (h : Q (.bl (!decide (x = .non))) H) : notNQ x .non H Q := ⟨rfl, h⟩
theorem ite_nt {A B : Prop} (h : B) : if (!true) = true then A else B := h
theorem ite_nf {A B : Prop} (h : A) : if (!false) = true then A else B := h
theorem Same.new' {H H' : Hp} {p : Addr} {o : HO} (s : Same H H') (h : H' p = none) : Same H (upd H' p o) := s.trans (same_new h)
theorem Same.mut {H H' : Hp} {p : Addr} {o : HO} (s : Same H H') (h : H p = none) : Same H (upd H' p o) := fun b u e => get_ne (ne_of_none e h) (s b u e)
def tCut (t u : TS) : TS := fun D σ H => ∃ Mid : L2.St → Hp → Prop, t { D with nx := Mid } σ H ∧ ∀ σ' H', Mid σ' H' → u D σ' H'
theorem pss_cut {X : Cx} {st : Stmt} {rest : List Stmt} {t u : TS} (h1 : PS X st t) (h2 : PSs X rest u) : PSs X (st :: rest) (tCut t u) := by
  refine ⟨fun pins s σ H D I h => ?_⟩
  obtain ⟨Mid, hm, hu⟩ := h
  refine wpAny_execs_cons (thn (h1.run pins s σ H { D with nx := Mid } I hm) fun f s1 q => ?_)
  cases f with
  | next =>
    obtain ⟨σ', H', I', q⟩ := q
    exact h2.run pins s1 σ' H' D I' (hu σ' H' q)
  | ret v => exact q
  | brk => exact q
  | cont => exact q
theorem w_cut {t u : TS} {D : Ends} {σ : L2.St} {H : Hp} (Mid : L2.St → Hp → Prop) (h1 : t { D with nx := Mid } σ H) (h2 : ∀ σ' H', Mid σ' H' → u D σ' H') : tCut t u D σ H := ⟨Mid, h1, h2⟩
theorem cut_whole {xs : List V} {lo hi : Option Int} (h : HT.sIx xs.length 0 lo = 0 ∧ HT.sIx xs.length xs.length hi = xs.length) : cutL xs lo hi = xs := by
  unfold cutL
  rw [h.1, h.2, List.drop_zero, Nat.sub_zero, List.take_length]
theorem w_slA {K : PySem.W.Frag} {H : Hp} {Q : VK} {a : Addr} {xs : List V} {lo hi : Option Int} (h1 : SqT K H a xs) (h : ∀ p H', Same H H' → SqT K H' p (cutL xs lo hi) → Q (.ref p) H') : rSlA K (.ref a) lo hi H Q := by
  refine ⟨a, xs, rfl, h1, fun hw => ?_, fun hw p hp => ?_⟩
  · exact h a H (Same.refl _) (by rw [cut_whole hw]; exact h1)
  · exact h p _ (same_new hp) (SqT.of upd_same)
/-! ## for -/
section
variable {K : PySem.W.Frag} {ta : TA} {tl : TE} {g : TG} {tb : TS} {D : Ends} {σ : L2.St} {H : Hp}
abbrev Turns (J : It) (g : TG) (tb : TS) (D : Ends) (σ : L2.St) (H : Hp) : Prop := ∃ W : Nat → Nat → L2.St → Hp → Prop, (∃ m, W 0 m σ H) ∧ ∀ i m σ H, W i m σ H →
  (J.stop i H ∧ D.nx σ H) ∨ (J.go i H ∧ ∃ N : L2.St → Hp → Prop, (∀ σ' H', N σ' H' → ∃ m', m' < m ∧ W (i + 1) m' σ' H') ∧ ∀ x H', J.yld i H x H' → g x σ H' fun σ2 H2 => tb { D with nx := N, ct := N, bk := D.nx } σ2 H2)
def rng1Q (g : TG) (tb : TS) (D : Ends) (σ : L2.St) (vs : List V) (H : Hp) : Prop := ∃ j : Int, vs = [.int j] ∧ -(2 ^ 62) ≤ j ∧ j < 2 ^ 62 ∧ Turns (Itr 0 j.toNat) g tb D σ H
theorem w_for1 (h : ta σ H fun vs H1 => rng1Q g tb D σ vs H1) : tFor (iRng1 ta) g tb D σ H := h
theorem w_rng1 {j : Int} (h1 : -1000000000 ≤ j) (h2 : j ≤ 1000000000) (Pv : Nat → L2.St → Hp → Prop) (p0 : Pv 0 σ H)
    (ps : ∀ (i : Nat) (σ : L2.St) (H : Hp), (i : Int) < j → Pv i σ H → g (.int (i : Int)) σ H fun σ2 H2 => tb { D with nx := Pv (i + 1), ct := Pv (i + 1), bk := D.nx } σ2 H2) (pd : ∀ σ H, Pv j.toNat σ H → D.nx σ H) : rng1Q g tb D σ [.int j] H := by
  refine ⟨j, rfl, by omega, by omega, for_range (lo := 0) (n := j.toNat) Pv p0 (fun i σ H hi p => ?_) pd⟩
  have e0 : (0 : Int) + (i : Int) = (i : Int) := Int.zero_add _
  rw [e0]
  exact ps i σ H (by omega) p
def rng2Q (g : TG) (tb : TS) (D : Ends) (σ : L2.St) (vs : List V) (H : Hp) : Prop := ∃ i j : Int, vs = [.int i, .int j] ∧ (-(2 ^ 62) ≤ i ∧ i < 2 ^ 62 ∧ -(2 ^ 62) ≤ j ∧ j < 2 ^ 62) ∧ Turns (Itr i (j - i).toNat) g tb D σ H
theorem w_for2 (h : ta σ H fun vs H1 => rng2Q g tb D σ vs H1) : tFor (iRng2 ta) g tb D σ H := h
theorem w_rng2 {lo hi : Int} (h0 : -1000000000 ≤ lo ∧ lo ≤ 1000000000) (h1 : -1000000000 ≤ hi ∧ hi ≤ 1000000000) (Pv : Nat → L2.St → Hp → Prop) (p0 : Pv 0 σ H)
    (ps : ∀ (i : Nat) (σ : L2.St) (H : Hp), lo + (i : Int) < hi → Pv i σ H → g (.int (lo + (i : Int))) σ H fun σ2 H2 => tb { D with nx := Pv (i + 1), ct := Pv (i + 1), bk := D.nx } σ2 H2) (pd : ∀ σ H, Pv (hi - lo).toNat σ H → D.nx σ H) : rng2Q g tb D σ [.int lo, .int hi] H :=
  ⟨lo, hi, rfl, by omega, for_range (lo := lo) (n := (hi - lo).toNat) Pv p0 (fun i σ H hi p => ps i σ H (by omega) p) pd⟩
def lstQ (K : PySem.W.Frag) (g : TG) (tb : TS) (D : Ends) (σ : L2.St) (x : V) (H : Hp) : Prop := ∃ a, x = .ref a ∧ (∃ xs, SqL K H a xs) ∧ Turns (Itl K a) g tb D σ H
theorem w_forL (h : tl σ H fun x H1 => lstQ K g tb D σ x H1) : tFor (iList K tl) g tb D σ H := h
theorem w_lstQ {a : Addr} {xs : List V} (hx : SqL K H a xs) (Pv : Nat → L2.St → Hp → Prop) (h0 : Pv 0 σ H) (hl : ∀ i σ H, i ≤ xs.length → Pv i σ H → SqL K H a xs)
    (hs : ∀ i x σ H, xs[i]? = some x → Pv i σ H → g x σ H fun σ2 H2 => tb { D with nx := Pv (i + 1), ct := Pv (i + 1), bk := D.nx } σ2 H2) (hd : ∀ σ H, Pv xs.length σ H → D.nx σ H) : lstQ K g tb D σ (.ref a) H :=
  ⟨a, rfl, ⟨xs, hx⟩, for_list (xs := xs) Pv h0 hl hs hd⟩
def tupQ (K : PySem.W.Frag) (g : TG) (tb : TS) (D : Ends) (σ : L2.St) (x : V) (H : Hp) : Prop := ∃ a, x = .ref a ∧ (∃ xs, SqT K H a xs) ∧ Turns (Itt K a) g tb D σ H
theorem w_forT (h : tl σ H fun x H1 => tupQ K g tb D σ x H1) : tFor (iTup K tl) g tb D σ H := h
theorem w_tupQ {a : Addr} {xs : List V} (hx : SqT K H a xs) (Pv : Nat → L2.St → Hp → Prop) (h0 : Pv 0 σ H) (hl : ∀ i σ H, i ≤ xs.length → Pv i σ H → SqT K H a xs)
    (hs : ∀ i x σ H, xs[i]? = some x → Pv i σ H → g x σ H fun σ2 H2 => tb { D with nx := Pv (i + 1), ct := Pv (i + 1), bk := D.nx } σ2 H2) (hd : ∀ σ H, Pv xs.length σ H → D.nx σ H) : tupQ K g tb D σ (.ref a) H :=
  ⟨a, rfl, ⟨xs, hx⟩, for_tup (xs := xs) Pv h0 hl hs hd⟩
def enuQ (g : TG) (tb : TS) (D : Ends) (σ : L2.St) (vs : List V) (H : Hp) : Prop := ∃ x, vs = [.str x] ∧ Turns (Ites x) g tb D σ H
theorem w_forE (h : ta σ H fun vs H1 => enuQ g tb D σ vs H1) : tFor (iEnumS ta) g tb D σ H := h
theorem w_enuQ {l : List Nat} (Pv : Nat → L2.St → Hp → Prop) (h0 : Pv 0 σ H)
    (hs : ∀ i c σ H T, l[i]? = some c → Pv i σ H → H T = none → g (.ref T) σ (upd H T (.tup [.int (i : Nat), vS [c]])) fun σ2 H2 => tb { D with nx := Pv (i + 1), ct := Pv (i + 1), bk := D.nx } σ2 H2) (hd : ∀ σ H, Pv l.length σ H → D.nx σ H) : enuQ g tb D σ [vS l] H :=
  ⟨S l, rfl, for_enumS Pv h0 hs hd⟩
theorem w_while {c : TT} (W : Nat → L2.St → Hp → Prop) (m0 : Nat) (h0 : W m0 σ H)
    (hs : ∀ m σ H, W m σ H → c σ H fun b H1 => if b = true then tb { D with nx := fun σ' H' => ∃ m', m' < m ∧ W m' σ' H', ct := fun σ' H' => ∃ m', m' < m ∧ W m' σ' H', bk := D.nx } σ H1 else D.nx σ H1)
    (mono : ∀ σ H Q Q', (∀ b H1, Q b H1 → Q' b H1) → c σ H Q → c σ H Q') : tWhile c tb D σ H := by
  refine ⟨W, ⟨m0, h0⟩, fun m σ H w => ?_⟩
  refine mono σ H _ _ (fun b H1 q => ?_) (hs m σ H w)
  cases b with
  | true => exact ⟨_, fun σ' H' n => n, q⟩
  | false => exact q
end
section
variable {K : PySem.W.Frag} {ta : TA} {tl te : TE} {g : TG} {tt : TT} {vs : List Nat} {σ : L2.St} {H : Hp} {Q : VK}
def accQ (Dl : Addr) (y : V) (H : Hp) (P : Hp → Prop) : Prop := ∃ acc, H Dl = some (.lst acc) ∧ acc.length < sizeLine ∧ P (upd H Dl (.lst (acc ++ [y])))
theorem w_acc {Dl : Addr} {y : V} {P : Hp → Prop} {acc : List V} (h1 : H Dl = some (.lst acc)) (h2 : acc.length < 16777216) (h : P (upd H Dl (.lst (acc ++ [y])))) : accQ Dl y H P := ⟨acc, h1, by rw [line_eq]; exact h2, h⟩
theorem w_yes {Q : Bool → Hp → Prop} (h : Q true H) : tYes σ H Q := h
abbrev LcTurn (g : TG) (tt : TT) (te : TE) (vs : List Nat) (σ : L2.St) (x : V) (H : Hp) (Dl : Addr) (P : Hp → Prop) : Prop := g x (wipe σ vs) H fun σ2 H2 => wipe σ2 vs = wipe σ vs ∧ tt σ2 H2 fun b H3 => if b = true then te σ2 H3 fun y H4 => accQ Dl y H4 P else P H3
def lcTQ (K : PySem.W.Frag) (g : TG) (tt : TT) (te : TE) (vs : List Nat) (σ : L2.St) (x : V) (H : Hp) (Q : VK) : Prop := tLc (iTup K (tC x)) g tt te vs σ H Q
theorem w_lcT (h : tl σ H fun x H1 => lcTQ K g tt te vs σ x H1 Q) : tLc (iTup K tl) g tt te vs σ H Q := h
theorem w_lcTQ {a : Addr} {xs : List V} (hx : SqT K H a xs) (Pv : Addr → Nat → Hp → Prop) (h0 : ∀ Dl, H Dl = none → Pv Dl 0 (upd H Dl (.lst []))) (hl : ∀ Dl i H', i ≤ xs.length → Pv Dl i H' → SqT K H' a xs)
    (hs : ∀ Dl i x H', H Dl = none → xs[i]? = some x → Pv Dl i H' → LcTurn g tt te vs σ x H' Dl (Pv Dl (i + 1))) (hd : ∀ Dl H', H Dl = none → Pv Dl xs.length H' → Q (.ref Dl) H') : lcTQ K g tt te vs σ (.ref a) H Q :=
  ⟨a, rfl, ⟨xs, hx⟩, fun Dl hD => lc_tup (xs := xs) (Pv Dl) (h0 Dl hD) (hl Dl) (fun i x H' hi p => hs Dl i x H' hD hi p) (fun H' p => hd Dl H' hD p)⟩
def lcLQ (K : PySem.W.Frag) (g : TG) (tt : TT) (te : TE) (vs : List Nat) (σ : L2.St) (x : V) (H : Hp) (Q : VK) : Prop := tLc (iList K (tC x)) g tt te vs σ H Q
theorem w_lcL (h : tl σ H fun x H1 => lcLQ K g tt te vs σ x H1 Q) : tLc (iList K tl) g tt te vs σ H Q := h
theorem w_lcLQ {a : Addr} {xs : List V} (hx : SqL K H a xs) (Pv : Addr → Nat → Hp → Prop) (h0 : ∀ Dl, H Dl = none → Pv Dl 0 (upd H Dl (.lst []))) (hl : ∀ Dl i H', i ≤ xs.length → Pv Dl i H' → SqL K H' a xs)
    (hs : ∀ Dl i x H', H Dl = none → xs[i]? = some x → Pv Dl i H' → LcTurn g tt te vs σ x H' Dl (Pv Dl (i + 1))) (hd : ∀ Dl H', H Dl = none → Pv Dl xs.length H' → Q (.ref Dl) H') : lcLQ K g tt te vs σ (.ref a) H Q :=
  ⟨a, rfl, ⟨xs, hx⟩, fun Dl hD => lc_list (xs := xs) (Pv Dl) (h0 Dl hD) (hl Dl) (fun i x H' hi p => hs Dl i x H' hD hi p) (fun H' p => hd Dl H' hD p)⟩
end
theorem kn_bool : kitB "NoneType" "bool" = some false := by decide +kernel
theorem kb_bool : kitB "bool" "bool" = some true := by decide +kernel
theorem ki_bool : kitB "int" "bool" = some false := by decide +kernel
theorem ks_bool : kitB "str" "bool" = some false := by decide +kernel
theorem kt_bool : kitB "tuple" "bool" = some false := by decide +kernel
theorem kb_int : kitB "bool" "int" = some true := by decide +kernel
theorem ki_int : kitB "int" "int" = some true := by decide +kernel
theorem ks_int : kitB "str" "int" = some false := by decide +kernel
theorem kt_int : kitB "tuple" "int" = some false := by decide +kernel
theorem kb_str : kitB "bool" "str" = some false := by decide +kernel
theorem ki_str : kitB "int" "str" = some false := by decide +kernel
theorem ks_str : kitB "str" "str" = some true := by decide +kernel
theorem kt_str : kitB "tuple" "str" = some false := by decide +kernel
theorem kt_tuple : kitB "tuple" "tuple" = some true := by decide +kernel
theorem kt_list : kitB "tuple" "list" = some false := by decide +kernel

theorem _root_.L2.Room.units1 {k : Nat} {A : Around} (r : Room k A) : A.units + 1 < cLine := by have := r.un; omega
/-! ## cuts -/
theorem cutL_nn {α : Type} (l : List α) {a b : Nat} (h1 : a ≤ b) (h2 : b ≤ l.length) : cutL l (some (a : Int)) (some (b : Int)) = (l.drop a).take (b - a) := by
  unfold cutL
  rw [HT.sIx_nat, HT.sIx_nat, Nat.min_eq_left h2, Nat.min_eq_left (by omega)]
theorem cutL_from {α : Type} (l : List α) {a : Nat} (h1 : a ≤ l.length) : cutL l (some (a : Int)) none = l.drop a := by
  unfold cutL
  rw [HT.sIx_nat, HT.sIx_none, Nat.min_eq_left h1]
  exact List.take_of_length_le (by rw [List.length_drop]; exact Nat.le_refl _)
theorem cutL_to {α : Type} (l : List α) (a : Nat) : cutL l none (some (a : Int)) = l.take a := by
  unfold cutL
  rw [HT.sIx_nat, HT.sIx_none, List.drop_zero, Nat.sub_zero]
  by_cases h : a ≤ l.length
  · rw [Nat.min_eq_left h]
  · rw [Nat.min_eq_right (by omega), List.take_of_length_le (Nat.le_refl _), List.take_of_length_le (by omega)]
theorem cutL_le {α : Type} (l : List α) (lo hi : Option Int) : (cutL l lo hi).length ≤ l.length := by
  unfold cutL
  rw [List.length_take, List.length_drop]
  omega
theorem atI_in {l : List Nat} {r : Int} (h0 : 0 ≤ r) (h1 : r < (l.length : Int)) : ∃ c, atI l r = some c := by
  obtain ⟨k, e⟩ := Int.eq_ofNat_of_zero_le h0
  have hk : k < l.length := by omega
  rw [e]
  exact ⟨l[k], atI_nat (List.getElem?_eq_getElem hk)⟩
/-- enough copies, cut to m -/
theorem cutL_from2 {α : Type} (l : List α) (a : Nat) : cutL l (some (a : Int)) none = l.drop a := by
  by_cases h : a ≤ l.length
  · exact cutL_from l h
  · unfold cutL
    rw [HT.sIx_nat, HT.sIx_none, Nat.min_eq_right (by omega), List.drop_length, List.drop_of_length_le (by omega), List.take_nil]
theorem cut_rep_len {l : List Nat} {m : Int} (hl : 1 ≤ l.length) (hm : 0 ≤ m) : ((cutL (rep (m / (l.length : Int) + 1) l) none (some m)).length : Int) = m := by
  obtain ⟨k, e⟩ := Int.eq_ofNat_of_zero_le hm
  rw [e, cutL_to, List.length_take, rep_len]
  have h1 : ((k : Int) / (l.length : Int) + 1).toNat = k / l.length + 1 := by
    have h3 : ((k : Int) / (l.length : Int)) = ((k / l.length : Nat) : Int) := rfl
    rw [h3]
    generalize k / l.length = d
    omega
  rw [h1]
  have h2 : k < (k / l.length + 1) * l.length := by
    rw [Nat.mul_comm]
    exact Nat.lt_mul_div_succ k (by omega)
  omega
/-! ## ints as items -/
abbrev vI (i : Nat) : V := .int (i : Int)
theorem eqV_I {i j : Int} : eqV (.int i) (.int j) = decide (i = j) := by
  show (i == j) = decide (i = j)
  exact Bool.beq_eq_decide_eq i j
theorem inV_I (a : Int) (bs : List Int) : inV (.int a) (bs.map V.int) = decide (a ∈ bs) := by
  induction bs with
  | nil => rfl
  | cons b r ih =>
    show (eqV (.int b) (.int a) || inV (.int a) (r.map V.int)) = _
    rw [ih, eqV_I]
    by_cases h : b = a
    · subst h; simp
    · have h' : ¬ a = b := fun e => h e.symm
      rw [decide_eq_false h]
      simp [h']
theorem inV_N (a : Nat) (bs : List Nat) : inV (vI a) (bs.map vI) = decide (a ∈ bs) := by
  have e : bs.map vI = (bs.map fun (i : Nat) => (i : Int)).map V.int := by rw [List.map_map]; rfl
  rw [e, inV_I]
  congr 1
  apply propext
  rw [List.mem_map]
  constructor
  · rintro ⟨b, hb, e⟩
    have : b = a := Int.ofNat.inj e
    exact this ▸ hb
  · intro h
    exact ⟨a, h, rfl⟩
theorem flat_I (bs : List Nat) : (bs.map vI).all flatV = true := by
  rw [List.all_eq_true]
  intro x hx
  obtain ⟨b, _, rfl⟩ := List.mem_map.mp hx
  rfl
def zInI (K : PySem.W.Frag) : R2 := fun x y H Q => ∃ (a : Nat) (p : Addr) (bs : List Nat), x = vI a ∧ y = .ref p ∧ (SqL K H p (bs.map vI) ∨ SqT K H p (bs.map vI)) ∧ Q (.bl (decide (a ∈ bs))) H
def zNinI (K : PySem.W.Frag) : R2 := fun x y H Q => ∃ (a : Nat) (p : Addr) (bs : List Nat), x = vI a ∧ y = .ref p ∧ (SqL K H p (bs.map vI) ∨ SqT K H p (bs.map vI)) ∧ Q (.bl (!decide (a ∈ bs))) H
section
variable {X : Cx}
theorem op_inI : OpR X (compareOp .In) (zInI X.K) := by
  intro pins s σ H x y v u Q I rx ry h
  obtain ⟨a, p, bs, rfl, rfl, hp, q⟩ := h
  refine op_in_seq pins s σ H _ _ v u Q I rx ry ⟨p, bs.map vI, rfl, hp, rfl, flat_I bs, ?_⟩
  show Q (.bl (inV (vI a) (bs.map vI))) H
  rw [inV_N]
  exact q
theorem op_ninI : OpR X (compareOp .NotIn) (zNinI X.K) := by
  intro pins s σ H x y v u Q I rx ry h
  obtain ⟨a, p, bs, rfl, rfl, hp, q⟩ := h
  refine op_notIn_seq pins s σ H _ _ v u Q I rx ry ⟨p, bs.map vI, rfl, hp, rfl, flat_I bs, ?_⟩
  show Q (.bl (!inV (vI a) (bs.map vI))) H
  rw [inV_N]
  exact q
/-- xs[i] of a list, by values -/
theorem get_listI : PGet X (rIxL X.K) := by
  intro pins s σ H o i ov iv Q I ro ri h
  obtain ⟨p, xs, k, z, rfl, rfl, hq, he, q⟩ := h
  cases ro
  obtain ⟨t, rfl⟩ := ri
  obtain ⟨its, r, pl, hz⟩ := I.list hq
  obtain ⟨j, h1, h2, h3, h4, h5⟩ := atI_get he
  obtain ⟨w, ew, rw'⟩ := r.get h2
  have hl := r.length
  have hn := line63
  have fin : EP X pins σ Q w s := ⟨z, H, I, rw', q⟩
  by_cases h0 : 0 ≤ k
  · have hj : k.toNat = j := by
      rw [seqIndex_of h0 h5] at h1
      exact Option.some.inj h1
    exact wpAny_getItem_list pl.isList h0 (by omega) (by rw [hj]; simpa using ew) fin
  · have hj : (k + (its.toArray.size : Int)).toNat = j := by
      rw [seqIndex_neg (by omega) h4] at h1
      rw [List.size_toArray, ← hl]
      exact Option.some.inj h1
    exact wpAny_getItem_list_neg pl.isList (by omega) (by rw [List.size_toArray] <;> omega) (by omega) (by rw [hj]; simpa using ew) fin
end
section
variable {σ : L2.St} {H : Hp} {Q : VK} {D : Ends} {ta tb te tc td ty tv : TE} {t u : TS} {g : TG} {v : V} {K : PySem.W.Frag}
theorem w_inIT {a : Nat} {p : Addr} {bs : List Nat} (h1 : SqT K H p (bs.map vI)) (h : Q (.bl (decide (a ∈ bs))) H) : zInI K (vI a) (.ref p) H Q := ⟨a, p, bs, rfl, rfl, .inr h1, h⟩
theorem w_inIL {a : Nat} {p : Addr} {bs : List Nat} (h1 : SqL K H p (bs.map vI)) (h : Q (.bl (decide (a ∈ bs))) H) : zInI K (vI a) (.ref p) H Q := ⟨a, p, bs, rfl, rfl, .inl h1, h⟩
theorem w_ninIT {a : Nat} {p : Addr} {bs : List Nat} (h1 : SqT K H p (bs.map vI)) (h : Q (.bl (!decide (a ∈ bs))) H) : zNinI K (vI a) (.ref p) H Q := ⟨a, p, bs, rfl, rfl, .inr h1, h⟩
theorem w_ninIL {a : Nat} {p : Addr} {bs : List Nat} (h1 : SqL K H p (bs.map vI)) (h : Q (.bl (!decide (a ∈ bs))) H) : zNinI K (vI a) (.ref p) H Q := ⟨a, p, bs, rfl, rfl, .inl h1, h⟩
/-! ## dicts -/
def dgetQ (x y : V) (H : Hp) (Q : VK) : Prop := ∃ a v, x = .ref a ∧ DGet H a y (some v) ∧ Q v H
theorem w_dgetQ (h : td σ H fun x H1 => ty σ H1 fun y H2 => dgetQ x y H2 Q) : tDGet td ty σ H Q := h
theorem w_dget {a : Addr} {kvs : List (Key × V)} {k : Key} {y : V} (hy : y = kV k) (h1 : H a = some (.dK kvs)) (h2 : valV kvs k = some v) (h : Q v H) : dgetQ (.ref a) y H Q := by
  subst hy
  exact ⟨a, v, rfl, h2 ▸ DGet.k h1, h⟩
def dinQ (x y : V) (H : Hp) (Q : VK) : Prop := ∃ a o, x = .ref a ∧ DGet H a y o ∧ Q (.bl o.isSome) H
theorem w_dinQ (h : ty σ H fun y H1 => td σ H1 fun x H2 => dinQ x y H2 Q) : tDIn ty td σ H Q := h
theorem w_din {a : Addr} {kvs : List (Key × V)} {k : Key} {y : V} (hy : y = kV k) (h1 : H a = some (.dK kvs)) (h : Q (.bl (valV kvs k).isSome) H) : dinQ (.ref a) y H Q := by
  subst hy
  exact ⟨a, _, rfl, DGet.k h1, h⟩
def dninQ (x y : V) (H : Hp) (Q : VK) : Prop := ∃ a o, x = .ref a ∧ DGet H a y o ∧ Q (.bl (!o.isSome)) H
theorem w_dninQ (h : ty σ H fun y H1 => td σ H1 fun x H2 => dninQ x y H2 Q) : tDNotIn ty td σ H Q := h
theorem w_dnin {a : Addr} {kvs : List (Key × V)} {k : Key} {y : V} (hy : y = kV k) (h1 : H a = some (.dK kvs)) (h : Q (.bl (!(valV kvs k).isSome)) H) : dninQ (.ref a) y H Q := by
  subst hy
  exact ⟨a, _, rfl, DGet.k h1, h⟩
theorem w_setD {a : Addr} {kvs : List (Key × V)} {k : Key} {y : V} {Q : Hp → Prop} (hy : y = kV k) (h1 : H a = some (.dK kvs)) (h2 : kvs.length < 16777216) (h : Q (upd H a (.dK (putK kvs k v)))) : rSetD (.ref a) y v H Q := by
  subst hy
  exact ⟨a, _, rfl, DPut.k h1 (by rw [line_eq]; exact h2), h⟩
def disp1Q (x y : V) (p : Addr) (H : Hp) (Q : VK) : Prop := H p = some (.dK []) ∧ ∃ kvs : List (Key × V), [(x, y)] = kvs.map (fun kv => (kV kv.1, kv.2)) ∧ kvs.length ≤ 15 ∧ Q (.ref p) (upd H p (.dK (mergeK [] kvs)))
theorem w_disp1 {tk tv : TE} (h : ∀ p, H p = none → tk σ (upd H p (.dK [])) fun x H1 => tv σ H1 fun y H2 => disp1Q x y p H2 Q) : tDisp [(tk, tv)] σ H Q := h
theorem w_disp1Q {x y : V} {p : Addr} {k : Key} (hx : x = kV k) (h1 : H p = some (.dK [])) (h : Q (.ref p) (upd H p (.dK [(k, y)]))) : disp1Q x y p H Q := by
  subst hx
  exact ⟨h1, [(k, y)], rfl, by simp, h⟩
theorem w_dnew (h : ∀ p, H p = none → Q (.ref p) (upd H p (.dK []))) : tDNewK σ H Q := h
theorem Tx.dk {H0 H : Hp} {l : Addr} {kvs : List (Key × V)} {o : HO} (x : Tx H0 H) (h : H l = some (.dK kvs)) : Tx H0 (upd H l o) := fun b u k e => by
  have e2 := x b u k e
  have n : b ≠ l := by
    refine ne_of e2 h ?_
    rcases k with ⟨_, rfl⟩ | ⟨_, _, rfl⟩ <;> intro z <;> cases z
  rw [upd_ne n]
  exact e2
theorem w_truI {i : Int} {Q : Bool → Hp → Prop} {H : Hp} {K : PySem.W.Frag} (h : Q (!decide (i = 0)) H) : truQ K (.int i) H Q := by
  refine ⟨_, rfl, ?_⟩
  have e : (i != 0) = !decide (i = 0) := by
    by_cases hi : i = 0
    · subst hi; rfl
    · rw [decide_eq_false hi]
      simp [hi]
  rw [e]
  exact h
theorem ixN_n {n j : Nat} (hj : j < n) : ixN n (j : Int) = some j := by
  unfold ixN
  rw [if_pos (by omega), if_pos (by omega)]
  simp
theorem atI_last {α : Type} {xs : List α} {x : α} : atI (xs ++ [x]) (-1) = some x := by
  unfold atI ixN
  rw [if_neg (by omega), if_pos (by rw [List.length_append, List.length_singleton]; omega)]
  have e : (-1 + ((xs ++ [x]).length : Int)).toNat = xs.length := by
    rw [List.length_append, List.length_singleton]
    omega
  rw [e]
  simp
theorem map_at {α : Type} {f : α → V} {xs : List α} {i : Nat} {v : V} (h : (xs.map f)[i]? = some v) : ∃ x, xs[i]? = some x ∧ v = f x := by
  rw [List.getElem?_map] at h
  obtain ⟨x, e, r⟩ := Option.map_eq_some_iff.mp h
  exact ⟨x, e, r.symm⟩
theorem at_map {α : Type} {f : α → V} {xs : List α} {i : Nat} {x : α} (h : xs[i]? = some x) : (xs.map f)[i]? = some (f x) := by rw [List.getElem?_map, h]; rfl
theorem getD_at {α : Type} {xs : List α} {i : Nat} {d : α} (h : i < xs.length) : xs[i]? = some (xs.getD i d) := by
  rw [List.getD_eq_getElem?_getD, List.getElem?_eq_getElem h]
  rfl
theorem getD_of {α : Type} {xs : List α} {i : Nat} {d x : α} (h : xs[i]? = some x) : xs.getD i d = x := by
  rw [List.getD_eq_getElem?_getD, h]
  rfl
theorem Same.fresh {H H' : Hp} {p : Addr} (s : Same H H') (h : H' p = none) : H p = none := by
  cases e : H p with
  | none => rfl
  | some o => rw [s _ _ e] at h; cases h
theorem rep_map {α : Type} (f : α → V) (x : α) (n : Nat) : List.replicate n (f x) = (List.replicate n x).map f := by rw [List.map_replicate]
/-! ## lists -/
theorem w_rep {l : Addr} {k : Int} {xs : List V} (h1 : H l = some (.lst xs)) (h2 : -100000000 ≤ k) (h3 : k ≤ 100000000) (h4 : xs.length * k.toNat ≤ 16777216) (h : ∀ p, H p = none → Q (.ref p) (upd H p (.lst (List.replicate k.toNat xs).flatten))) : rRep (.ref l) (.int k) H Q :=
  ⟨l, k, xs, rfl, rfl, h1, by omega, by omega, by rw [line_eq]; exact h4, h⟩
theorem flat_one {α : Type} (x : α) : ∀ n : Nat, (List.replicate n [x]).flatten = List.replicate n x
  | 0 => rfl
  | n + 1 => by rw [List.replicate_succ, List.flatten_cons, flat_one x n, List.replicate_succ]; rfl
/-- [x] * n -/
theorem w_rep1 {l : Addr} {n : Nat} {x : V} (h1 : H l = some (.lst [x])) (h2 : n ≤ 16777216) (h : ∀ p, H p = none → Q (.ref p) (upd H p (.lst (List.replicate n x)))) : rRep (.ref l) (.int (n : Int)) H Q := by
  refine w_rep h1 (by omega) (by omega) (by simp; exact h2) fun p hp => ?_
  rw [Int.toNat_natCast, flat_one]
  exact h p hp
theorem w_catL {a b : Addr} {xs ys : List V} (h1 : H a = some (.lst xs)) (h2 : H b = some (.lst ys)) (h3 : xs.length + ys.length ≤ 16777216) (h : ∀ p, H p = none → Q (.ref p) (upd H p (.lst (xs ++ ys)))) : rCat (.ref a) (.ref b) H Q :=
  ⟨a, b, xs, ys, rfl, rfl, h1, h2, by rw [line_eq]; exact h3, h⟩
theorem w_catA {a b : Addr} {xs ys : List V} (h1 : SqT K H a xs) (h2 : SqT K H b ys) (h3 : xs.length + ys.length ≤ 16777216) (h : ∀ p H', Same H H' → SqT K H' p (xs ++ ys) → Q (.ref p) H') : rCatA K (.ref a) (.ref b) H Q := by
  refine ⟨a, b, xs, ys, rfl, rfl, h1, h2, by rw [line_eq]; exact h3, fun e => ?_, fun _ e => ?_, fun _ _ p hp => ?_⟩
  · subst e
    exact h b H (Same.refl _) h2
  · subst e
    exact h a H (Same.refl _) (by rw [List.append_nil]; exact h1)
  · exact h p _ (same_new hp) (SqT.of upd_same)
theorem w_sumL {a : Addr} {ns : List Int} (h1 : SqL K H a (ns.map V.int)) (h : Q (.int ns.sum) H) : rSum K [.ref a] H Q := ⟨a, ns, rfl, h1, h⟩
theorem w_augS {to ti te : TE} {tget : V → V → Hp → VK → Prop} {tip : TIp} {tset : TSet} (h : to σ H fun o H1 => ti σ H1 fun i H2 => tget o i H2 fun x H3 => te σ H3 fun y H4 => tip x y H4 fun z H5 => tset o i z H5 fun H6 => D.nx σ H6) : tAugS to ti te tget tip tset D σ H := h
theorem w_ipI {f : Int → Int → Int} {i j : Int} (h : Q (.int (f i j)) H) : ipI f (.int i) (.int j) H Q := ⟨i, j, rfl, rfl, h⟩
theorem w_aug {i : Nat} {ti : TIp} (h1 : σ[i]? = some (some v)) (h : te σ H fun y H1 => ti v y H1 fun z H2 => D.nx (σ.set i (some z)) H2) : tAug i te ti D σ H := ⟨v, h1, h⟩
def tupRgQ (a b : Int) (H : Hp) (Q : VK) : Prop := RgOk a b ∧ ∀ q, H q = none → Q (.ref q) (upd H q (.tup (rgV a b)))
def rg1Q (x : V) (H : Hp) (Q : Int → Int → Hp → Prop) : Prop := ∃ n, x = .int n ∧ Q 0 n H
theorem w_tupRg {te : L2.St → Hp → (Int → Int → Hp → Prop) → Prop} (h : te σ H fun a b H1 => tupRgQ a b H1 Q) : tTupRg te σ H Q := h
theorem w_rg1 {Q : Int → Int → Hp → Prop} (h : ta σ H fun x H1 => rg1Q x H1 Q) : tRg1 ta σ H Q := h
theorem w_rg1Q {n : Int} {Q : Int → Int → Hp → Prop} (h : Q 0 n H) : rg1Q (.int n) H Q := ⟨n, rfl, h⟩
theorem rgV0 (n : Nat) : rgV 0 (n : Int) = (List.range n).map vI := by
  unfold rgV
  rw [Int.sub_zero, Int.toNat_natCast]
  apply List.map_congr_left
  intro i _
  rw [Int.zero_add]
theorem w_tupRg0 {n : Nat} (h1 : n ≤ 16777216) (h : ∀ q, H q = none → Q (.ref q) (upd H q (.tup ((List.range n).map vI)))) : tupRgQ 0 (n : Int) H Q :=
  ⟨RgOk.of_le (by omega) (by omega) (by omega) (by omega), fun q hq => by rw [rgV0]; exact h q hq⟩
end
/-! ## for -/
section
variable {K : PySem.W.Frag} {ta : TA} {tl : TE} {g : TG} {tb : TS} {D : Ends} {σ : L2.St} {H : Hp}
def enlQ (K : PySem.W.Frag) (g : TG) (tb : TS) (D : Ends) (σ : L2.St) (vs : List V) (H : Hp) : Prop := ∃ a xs, vs = [.ref a] ∧ SqL K H a xs ∧ Turns (Ite K a) g tb D σ H
theorem w_forEL (h : ta σ H fun vs H1 => enlQ K g tb D σ vs H1) : tFor (iEnum K ta) g tb D σ H := h
theorem w_enlQ {a : Addr} {xs : List V} (hx : SqL K H a xs) (Pv : Nat → L2.St → Hp → Prop) (h0 : Pv 0 σ H) (hl : ∀ i σ H, i ≤ xs.length → Pv i σ H → SqL K H a xs)
    (hs : ∀ i x T σ H, xs[i]? = some x → Pv i σ H → H T = none → g (.ref T) σ (upd H T (.tup [vI i, x])) fun σ2 H2 => tb { D with nx := Pv (i + 1), ct := Pv (i + 1), bk := D.nx } σ2 H2) (hd : ∀ σ H, Pv xs.length σ H → D.nx σ H) : enlQ K g tb D σ [.ref a] H := by
  refine ⟨a, xs, rfl, hx, for_it walk_enum Pv h0 hl (fun i x σ H H' hi p y => ?_) hd⟩
  obtain ⟨T, x1, x2, rfl, hT, rfl, e1, e2⟩ := y
  have e1' : vI i = x1 := Option.some.inj e1
  subst e1'
  exact hs i x2 T σ H e2 p hT
def chrQ (g : TG) (tb : TS) (D : Ends) (σ : L2.St) (v : V) (H : Hp) : Prop := ∃ x, v = .str x ∧ Turns (Its x) g tb D σ H
theorem w_forS (h : tl σ H fun v H1 => chrQ g tb D σ v H1) : tFor (iStr tl) g tb D σ H := h
theorem w_chrQ {l : List Nat} (Pv : Nat → L2.St → Hp → Prop) (h0 : Pv 0 σ H)
    (hs : ∀ i c σ H, l[i]? = some c → Pv i σ H → g (vS [c]) σ H fun σ2 H2 => tb { D with nx := Pv (i + 1), ct := Pv (i + 1), bk := D.nx } σ2 H2) (hd : ∀ σ H, Pv l.length σ H → D.nx σ H) : chrQ g tb D σ (vS l) H := by
  have hz : (S l).cps.size = l.length := by simp
  have W : Walk (Its (S l)) l.length (fun _ => True) (fun i H v H' => H' = H ∧ ∃ c, (S l).cps[i]? = some c ∧ v = .str ⟨#[c]⟩) := hz ▸ walk_str
  refine ⟨S l, rfl, for_it W Pv h0 (fun _ _ _ _ _ => trivial) (fun i x σ H H' hi p y => ?_) hd⟩
  obtain ⟨rfl, c, hc, rfl⟩ := y
  exact hs i c σ H' (by simpa using hc) p
end
/-! ## comprehensions -/
section
variable {K : PySem.W.Frag} {ta : TA} {tl te : TE} {g : TG} {tt : TT} {vs : List Nat} {σ : L2.St} {H : Hp} {Q : VK}
def lcR1Q (g : TG) (tt : TT) (te : TE) (vs : List Nat) (σ : L2.St) (xs : List V) (H : Hp) (Q : VK) : Prop := tLc (iRng1 (fun _ H P => P xs H)) g tt te vs σ H Q
theorem w_lcR1 (h : ta σ H fun xs H1 => lcR1Q g tt te vs σ xs H1 Q) : tLc (iRng1 ta) g tt te vs σ H Q := h
theorem w_lcR1Q {j : Int} (h1 : -1000000000 ≤ j) (h2 : j ≤ 1000000000) (Pv : Addr → Nat → Hp → Prop) (h0 : ∀ Dl, H Dl = none → Pv Dl 0 (upd H Dl (.lst [])))
    (hs : ∀ Dl (i : Nat) H', H Dl = none → (i : Int) < j → Pv Dl i H' → LcTurn g tt te vs σ (vI i) H' Dl (Pv Dl (i + 1))) (hd : ∀ Dl H', H Dl = none → Pv Dl j.toNat H' → Q (.ref Dl) H') : lcR1Q g tt te vs σ [.int j] H Q := by
  refine ⟨j, rfl, by omega, by omega, fun Dl hD => lc_it (walk_range (lo := 0) (n := j.toNat)) (Pv Dl) (h0 Dl hD) (fun _ _ _ _ => trivial) (fun i x H1 H' hi p y => ?_) (fun H' p => hd Dl H' hD p)⟩
  obtain ⟨rfl, rfl⟩ := y
  have e0 : (0 : Int) + (i : Int) = (i : Int) := Int.zero_add _
  show g (.int (0 + (i : Int))) _ _ _
  rw [e0]
  exact hs Dl i H' hD (by omega) p
def lcR2Q (g : TG) (tt : TT) (te : TE) (vs : List Nat) (σ : L2.St) (xs : List V) (H : Hp) (Q : VK) : Prop := tLc (iRng2 (fun _ H P => P xs H)) g tt te vs σ H Q
theorem w_lcR2 (h : ta σ H fun xs H1 => lcR2Q g tt te vs σ xs H1 Q) : tLc (iRng2 ta) g tt te vs σ H Q := h
theorem w_lcR2Q {lo hi : Int} (h1 : -1000000000 ≤ lo ∧ lo ≤ 1000000000) (h2 : -1000000000 ≤ hi ∧ hi ≤ 1000000000) (Pv : Addr → Nat → Hp → Prop) (h0 : ∀ Dl, H Dl = none → Pv Dl 0 (upd H Dl (.lst [])))
    (hs : ∀ Dl (i : Nat) H', H Dl = none → lo + (i : Int) < hi → Pv Dl i H' → LcTurn g tt te vs σ (.int (lo + (i : Int))) H' Dl (Pv Dl (i + 1))) (hd : ∀ Dl H', H Dl = none → Pv Dl (hi - lo).toNat H' → Q (.ref Dl) H') : lcR2Q g tt te vs σ [.int lo, .int hi] H Q := by
  refine ⟨lo, hi, rfl, by omega, fun Dl hD => lc_it (walk_range (lo := lo) (n := (hi - lo).toNat)) (Pv Dl) (h0 Dl hD) (fun _ _ _ _ => trivial) (fun i x H1 H' hi p y => ?_) (fun H' p => hd Dl H' hD p)⟩
  obtain ⟨rfl, rfl⟩ := y
  exact hs Dl i H' hD (by omega) p
def lcSQ (g : TG) (tt : TT) (te : TE) (vs : List Nat) (σ : L2.St) (x : V) (H : Hp) (Q : VK) : Prop := tLc (iStr (tC x)) g tt te vs σ H Q
theorem w_lcS (h : tl σ H fun x H1 => lcSQ g tt te vs σ x H1 Q) : tLc (iStr tl) g tt te vs σ H Q := h
theorem w_lcSQ {l : List Nat} (Pv : Addr → Nat → Hp → Prop) (h0 : ∀ Dl, H Dl = none → Pv Dl 0 (upd H Dl (.lst [])))
    (hs : ∀ Dl i c H', H Dl = none → l[i]? = some c → Pv Dl i H' → LcTurn g tt te vs σ (vS [c]) H' Dl (Pv Dl (i + 1))) (hd : ∀ Dl H', H Dl = none → Pv Dl l.length H' → Q (.ref Dl) H') : lcSQ g tt te vs σ (vS l) H Q := by
  have hz : (S l).cps.size = l.length := by simp
  have W : Walk (Its (S l)) l.length (fun _ => True) (fun i H v H' => H' = H ∧ ∃ c, (S l).cps[i]? = some c ∧ v = .str ⟨#[c]⟩) := hz ▸ walk_str
  refine ⟨S l, rfl, fun Dl hD => lc_it W (Pv Dl) (h0 Dl hD) (fun _ _ _ _ => trivial) (fun i x H1 H' hi p y => ?_) (fun H' p => hd Dl H' hD p)⟩
  obtain ⟨rfl, c, hc, rfl⟩ := y
  exact hs Dl i c H' hD (by simpa using hc) p
end
structure Lot where
  letters : List Nat
  rows : List (List Nat)
  ends : List Nat
structure Good (L : Lot) : Prop where
  n0 : 0 < L.rows.length
  n1 : L.rows.length ≤ 400
  l1 : L.letters.length ≤ 6
  rl : ∀ r ∈ L.rows, r.length = L.letters.length ∧ ∀ x ∈ r, x < L.rows.length
  el : ∀ e ∈ L.ends, e < L.rows.length
  e1 : L.ends.length ≤ 400
/-! ## how a lot stands in the heap -/
def Rws (K : PySem.W.Frag) (H : Hp) (b : Addr) (rows : List (List Nat)) : Prop := ∃ xs, SqT K H b xs ∧ xs.length = rows.length ∧ ∀ (i : Nat) r, rows[i]? = some r → ∃ p, xs[i]? = some (.ref p) ∧ SqT K H p (r.map vI)
def LotAt (K : PySem.W.Frag) (H : Hp) (a : Addr) (L : Lot) : Prop := ∃ b c, SqT K H a [vS L.letters, .ref b, .ref c] ∧ Rws K H b L.rows ∧ SqT K H c (L.ends.map vI)
theorem Rws.tx {K : PySem.W.Frag} {H H' : Hp} {b : Addr} {rows : List (List Nat)} (x : Tx H H') (h : Rws K H b rows) : Rws K H' b rows := by
  obtain ⟨xs, h1, h2, h3⟩ := h
  refine ⟨xs, x.sqT h1, h2, fun i r e => ?_⟩
  obtain ⟨p, e1, e2⟩ := h3 i r e
  exact ⟨p, e1, x.sqT e2⟩
theorem LotAt.tx {K : PySem.W.Frag} {H H' : Hp} {a : Addr} {L : Lot} (x : Tx H H') (h : LotAt K H a L) : LotAt K H' a L := by
  obtain ⟨b, c, h1, h2, h3⟩ := h
  exact ⟨b, c, x.sqT h1, h2.tx x, x.sqT h3⟩
/-! ## the states reached, in order -/
abbrev Bs := List (Nat × List Nat)
def vis1 (bs : Bs) (o : Nat) (t : List Nat) : Bs := if o ∈ bs.map (·.1) then bs else bs ++ [(o, t)]
def visJ (row letters t : List Nat) (bs : Bs) : Nat → Bs
  | 0 => bs
  | j + 1 => vis1 (visJ row letters t bs j) (row.getD j 0) (t ++ [letters.getD j 0])
def turnB (L : Lot) (i : Nat) (bs : Bs) : Bs := match bs[i]? with
  | none => bs
  | some p => visJ (L.rows.getD p.1 []) L.letters p.2 bs L.letters.length
def bfs (L : Lot) : Nat → Bs
  | 0 => [(0, [])]
  | i + 1 => turnB L i (bfs L i)
def reach (L : Lot) : Bs := bfs L L.rows.length
def firstOf (L : Lot) : Option (List Nat) := ((reach L).find? fun p => decide (p.1 ∈ L.ends)).map (·.2)
theorem vis1_pre (bs : Bs) (o : Nat) (t : List Nat) : bs <+: vis1 bs o t := by
  unfold vis1
  split
  · exact List.prefix_rfl
  · exact List.prefix_append _ _
theorem visJ_pre (row letters t : List Nat) (bs : Bs) : ∀ j, bs <+: visJ row letters t bs j
  | 0 => List.prefix_rfl
  | j + 1 => (visJ_pre row letters t bs j).trans (vis1_pre _ _ _)
theorem turn_pre (L : Lot) (i : Nat) (bs : Bs) : bs <+: turnB L i bs := by
  unfold turnB
  split
  · exact List.prefix_rfl
  · exact visJ_pre _ _ _ _ _
theorem bfs_pre (L : Lot) (i : Nat) : ∀ k, bfs L i <+: bfs L (i + k)
  | 0 => List.prefix_rfl
  | k + 1 => (bfs_pre L i k).trans (turn_pre L _ _)
theorem pre_get {α : Type} {l m : List α} (h : l <+: m) {i : Nat} {x : α} (e : l[i]? = some x) : m[i]? = some x := by
  obtain ⟨t, rfl⟩ := h
  rw [List.getElem?_append_left (List.getElem?_eq_some_iff.mp e).1]
  exact e
theorem vis1_all {P : Nat → List Nat → Prop} {bs : Bs} {o : Nat} {t : List Nat} (h : ∀ p ∈ bs, P p.1 p.2) (ho : P o t) : ∀ p ∈ vis1 bs o t, P p.1 p.2 := by
  unfold vis1
  split
  · exact h
  · intro p hp
    rcases List.mem_append.mp hp with hp | hp
    · exact h p hp
    · rw [List.mem_singleton.mp hp]
      exact ho
theorem visJ_all {P : Nat → List Nat → Prop} {row letters t : List Nat} {bs : Bs} (h : ∀ p ∈ bs, P p.1 p.2) : ∀ j, (∀ k, k < j → P (row.getD k 0) (t ++ [letters.getD k 0])) → ∀ p ∈ visJ row letters t bs j, P p.1 p.2
  | 0, _ => h
  | j + 1, hr => vis1_all (visJ_all h j fun k hk => hr k (by omega)) (hr j (by omega))
theorem vis1_nd {bs : Bs} {o : Nat} {t : List Nat} (h : (bs.map (·.1)).Nodup) : ((vis1 bs o t).map (·.1)).Nodup := by
  unfold vis1
  split
  · exact h
  · rename_i hn
    rw [List.map_append, List.nodup_append]
    refine ⟨h, by simp, ?_⟩
    intro a ha b hb e
    subst e
    have : a = o := List.mem_singleton.mp hb
    subst this
    exact hn ha
theorem visJ_nd {row letters t : List Nat} {bs : Bs} (h : (bs.map (·.1)).Nodup) : ∀ j, ((visJ row letters t bs j).map (·.1)).Nodup
  | 0 => h
  | j + 1 => vis1_nd (visJ_nd h j)
theorem bfs_nd (L : Lot) : ∀ i, ((bfs L i).map (·.1)).Nodup
  | 0 => by simp [bfs]
  | i + 1 => by
    show ((turnB L i (bfs L i)).map (·.1)).Nodup
    unfold turnB
    split
    · exact bfs_nd L i
    · exact visJ_nd (bfs_nd L i) _
theorem mem_getD_row {L : Lot} {b s : Nat} (b0 : 0 < b) (h : ∀ r ∈ L.rows, ∀ x ∈ r, x < b) (k : Nat) : (L.rows.getD s []).getD k 0 < b := by
  rw [List.getD_eq_getElem?_getD, List.getD_eq_getElem?_getD]
  cases e : L.rows[s]? with
  | none => simpa using b0
  | some r =>
    show (r[k]?).getD 0 < b
    cases e2 : r[k]? with
    | none => simpa using b0
    | some x => exact h r (List.mem_of_getElem? e) x (List.mem_of_getElem? e2)
theorem bfs_lt {L : Lot} {b : Nat} (b0 : 0 < b) (h : ∀ r ∈ L.rows, ∀ x ∈ r, x < b) : ∀ i, ∀ p ∈ bfs L i, p.1 < b
  | 0 => fun p hp => by
    have : p = (0, []) := List.mem_singleton.mp hp
    subst this
    exact b0
  | i + 1 => by
    show ∀ p ∈ turnB L i (bfs L i), p.1 < b
    unfold turnB
    split
    · exact bfs_lt b0 h i
    · exact visJ_all (P := fun x _ => x < b) (bfs_lt b0 h i) _ fun k _ => mem_getD_row b0 h k
theorem bfs_txt {L : Lot} : ∀ i, ∀ p ∈ bfs L i, p.2.length ≤ i
  | 0 => fun p hp => by
    have : p = (0, []) := List.mem_singleton.mp hp
    subst this
    exact Nat.le_refl _
  | i + 1 => by
    show ∀ p ∈ turnB L i (bfs L i), p.2.length ≤ i + 1
    have ih := bfs_txt (L := L) i
    unfold turnB
    split
    · exact fun p hp => Nat.le_succ_of_le (ih p hp)
    · rename_i p e
      have := ih p (List.mem_of_getElem? e)
      exact visJ_all (P := fun _ t => t.length ≤ i + 1) (fun p hp => Nat.le_succ_of_le (ih p hp)) _ fun k _ => by rw [List.length_append, List.length_singleton]; omega
theorem nd_le : ∀ (n : Nat) (l : List Nat), l.Nodup → (∀ x ∈ l, x < n) → l.length ≤ n
  | 0, l, _, h => by
    cases l with
    | nil => exact Nat.le_refl _
    | cons a r => exact absurd (h a List.mem_cons_self) (Nat.not_lt_zero _)
  | n + 1, l, nd, h => by
    have h1 : ∀ x ∈ l.erase n, x < n := fun x hx => by
      have h2 := h x (List.mem_of_mem_erase hx)
      have h3 : x ≠ n := fun e => by
        subst e
        exact (List.Nodup.not_mem_erase nd) hx
      omega
    have h4 := nd_le n (l.erase n) (nd.erase n) h1
    have h5 : l.length ≤ (l.erase n).length + 1 := by
      rw [List.length_erase]
      split <;> omega
    omega
theorem bfs_len {L : Lot} (g : Good L) (i : Nat) : (bfs L i).length ≤ L.rows.length := by
  have := nd_le L.rows.length _ (bfs_nd L i) fun x hx => by
    obtain ⟨p, hp, rfl⟩ := List.mem_map.mp hx
    exact bfs_lt g.n0 (fun r hr => (g.rl r hr).2) i p hp
  rwa [List.length_map] at this
theorem bfs_stay {L : Lot} {i : Nat} (h : (bfs L i).length ≤ i) : ∀ k, bfs L (i + k) = bfs L i
  | 0 => rfl
  | k + 1 => by
    have ih := bfs_stay h k
    show turnB L (i + k) (bfs L (i + k)) = _
    rw [ih]
    unfold turnB
    rw [List.getElem?_eq_none (by omega)]
theorem reach_eq {L : Lot} {i : Nat} (h : (bfs L i).length ≤ i) (hn : i ≤ L.rows.length) : reach L = bfs L i := by
  unfold reach
  have := bfs_stay h (L.rows.length - i)
  rwa [show i + (L.rows.length - i) = L.rows.length by omega] at this
theorem reach_at {L : Lot} {i j : Nat} {p : Nat × List Nat} (e : (bfs L i)[j]? = some p) (hi : i ≤ L.rows.length) : (reach L)[j]? = some p := by
  refine pre_get ?_ e
  have := bfs_pre L i (L.rows.length - i)
  rwa [show i + (L.rows.length - i) = L.rows.length by omega] at this
theorem find_at {α : Type} {P : α → Bool} : ∀ {l : List α} {i : Nat} {x : α}, (∀ j, j < i → ∀ y, l[j]? = some y → P y = false) → l[i]? = some x → P x = true → l.find? P = some x
  | [], _, _, _, e, _ => by simp at e
  | a :: r, 0, x, _, e, hx => by
    have : a = x := Option.some.inj e
    subst this
    rw [List.find?_cons, hx]
  | a :: r, i + 1, x, h, e, hx => by
    rw [List.find?_cons, h 0 (by omega) a rfl]
    exact find_at (fun j hj y hy => h (j + 1) (by omega) y hy) e hx
theorem find_no {α : Type} {P : α → Bool} {l : List α} (h : ∀ (j : Nat) y, l[j]? = some y → P y = false) : l.find? P = none := by
  rw [List.find?_eq_none]
  intro x hx
  obtain ⟨j, hj⟩ := List.mem_iff_getElem?.mp hx
  rw [h j x hj]
  exact Bool.false_ne_true
theorem turn_at {L : Lot} {i : Nat} {p : Nat × List Nat} (e : (bfs L i)[i]? = some p) : bfs L (i + 1) = visJ (L.rows.getD p.1 []) L.letters p.2 (bfs L i) L.letters.length := by
  show turnB L i (bfs L i) = _
  unfold turnB
  rw [e]
theorem reach0 (L : Lot) : (reach L)[0]? = some (0, []) := reach_at (i := 0) rfl (Nat.zero_le _)
/-! ## counts -/
def bump (fs : List Int) (t : Nat) (c : Int) : List Int := fs.set t (fs.getD t 0 + c)
def rowAdd (fs : List Int) (row : List Nat) (c : Int) : List Int := row.foldl (fun fs t => bump fs t c) fs
def stp (L : Lot) (cs : List Int) : Nat → List Int
  | 0 => List.replicate L.rows.length 0
  | s + 1 => if cs.getD s 0 = 0 then stp L cs s else rowAdd (stp L cs s) (L.rows.getD s []) (cs.getD s 0)
def cnt (L : Lot) : Nat → List Int
  | 0 => (List.replicate L.rows.length (0 : Int)).set 0 1
  | t + 1 => stp L (cnt L t) L.rows.length
def countOf (L : Lot) (m : Nat) : Int := (L.ends.map fun e => (cnt L m).getD e 0).sum
theorem bump_len (fs : List Int) (t : Nat) (c : Int) : (bump fs t c).length = fs.length := by unfold bump; rw [List.length_set]
theorem rowAdd_len : ∀ (row : List Nat) (fs : List Int) (c : Int), (rowAdd fs row c).length = fs.length
  | [], _, _ => rfl
  | t :: r, fs, c => by
    show (rowAdd (bump fs t c) r c).length = _
    rw [rowAdd_len r, bump_len]
theorem stp_len (L : Lot) (cs : List Int) : ∀ s, (stp L cs s).length = L.rows.length
  | 0 => List.length_replicate
  | s + 1 => by
    unfold stp
    split
    · exact stp_len L cs s
    · rw [rowAdd_len, stp_len L cs s]
theorem cnt_len (L : Lot) : ∀ t, (cnt L t).length = L.rows.length
  | 0 => by unfold cnt; rw [List.length_set, List.length_replicate]
  | t + 1 => stp_len L _ _
theorem bump_get (fs : List Int) (t i : Nat) (c : Int) : (bump fs t c).getD i 0 = if i = t ∧ t < fs.length then fs.getD t 0 + c else fs.getD i 0 := by
  unfold bump
  rw [List.getD_eq_getElem?_getD, List.getElem?_set]
  by_cases h : t = i
  · subst h
    by_cases h2 : t < fs.length
    · simp [h2]
    · simp [h2]
  · have h' : ¬ i = t := fun e => h e.symm
    simp [h, h']
theorem bump_ge {fs : List Int} {t i : Nat} {c : Int} (hc : 0 ≤ c) : fs.getD i 0 ≤ (bump fs t c).getD i 0 := by
  rw [bump_get]
  split
  · rename_i h
    rw [h.1]
    omega
  · exact Int.le_refl _
theorem rowAdd_ge : ∀ (row : List Nat) (fs : List Int) (c : Int) (i : Nat), 0 ≤ c → fs.getD i 0 ≤ (rowAdd fs row c).getD i 0
  | [], fs, c, i, _ => Int.le_refl _
  | t :: r, fs, c, i, hc => Int.le_trans (bump_ge hc) (rowAdd_ge r (bump fs t c) c i hc)
theorem rowAdd_in : ∀ (row : List Nat) (fs : List Int) (c : Int) (i : Nat), 0 ≤ c → i ∈ row → i < fs.length → fs.getD i 0 + c ≤ (rowAdd fs row c).getD i 0
  | [], fs, c, i, _, h, _ => nomatch h
  | t :: r, fs, c, i, hc, h, hl => by
    show _ ≤ (rowAdd (bump fs t c) r c).getD i 0
    rcases List.mem_cons.mp h with e | e
    · subst e
      refine Int.le_trans ?_ (rowAdd_ge r (bump fs i c) c i hc)
      rw [bump_get, if_pos ⟨rfl, hl⟩]
      exact Int.le_refl _
    · have h1 := rowAdd_in r (bump fs t c) c i hc e (by rw [bump_len]; exact hl)
      have h2 := bump_ge (fs := fs) (t := t) (i := i) hc
      omega
theorem rowAdd_out : ∀ (row : List Nat) (fs : List Int) (c : Int) (i : Nat), ¬ i ∈ row → (rowAdd fs row c).getD i 0 = fs.getD i 0
  | [], fs, c, i, _ => rfl
  | t :: r, fs, c, i, h => by
    show (rowAdd (bump fs t c) r c).getD i 0 = _
    rw [rowAdd_out r _ _ _ fun e => h (List.mem_cons_of_mem _ e), bump_get, if_neg]
    rintro ⟨rfl, _⟩
    exact h List.mem_cons_self
theorem rep0 (n i : Nat) : (List.replicate n (0 : Int)).getD i 0 = 0 := by
  rw [List.getD_eq_getElem?_getD, List.getElem?_replicate]
  split <;> rfl
theorem stp_nn {L : Lot} {cs : List Int} (h : ∀ i, 0 ≤ cs.getD i 0) : ∀ s i, 0 ≤ (stp L cs s).getD i 0
  | 0, i => by
    unfold stp
    rw [rep0]
    exact Int.le_refl _
  | s + 1, i => by
    unfold stp
    split
    · exact stp_nn h s i
    · exact Int.le_trans (stp_nn h s i) (rowAdd_ge _ _ _ _ (h s))
theorem cnt_nn (L : Lot) : ∀ t i, 0 ≤ (cnt L t).getD i 0
  | 0, i => by
    unfold cnt
    rw [List.getD_eq_getElem?_getD, List.getElem?_set]
    split
    · split <;> simp
    · have := rep0 L.rows.length i
      rw [List.getD_eq_getElem?_getD] at this
      rw [this]
      exact Int.le_refl _
  | t + 1, i => stp_nn (cnt_nn L t) _ i
theorem stp_ge {L : Lot} {cs : List Int} (h : ∀ i, 0 ≤ cs.getD i 0) (s i : Nat) : ∀ k, (stp L cs s).getD i 0 ≤ (stp L cs (s + k)).getD i 0
  | 0 => Int.le_refl _
  | k + 1 => by
    refine Int.le_trans (stp_ge h s i k) ?_
    show _ ≤ (stp L cs (s + k + 1)).getD i 0
    rw [stp.eq_2 L cs (s + k)]
    split
    · exact Int.le_refl _
    · exact rowAdd_ge _ _ _ _ (h _)
theorem cnt_pos {L : Lot} (g : Good L) (hl : L.letters ≠ []) : ∀ t, ∃ s, s < L.rows.length ∧ 0 < (cnt L t).getD s 0
  | 0 => ⟨0, g.n0, by
    unfold cnt
    have := g.n0
    rw [List.getD_eq_getElem?_getD, List.getElem?_set]
    simp [this]⟩
  | t + 1 => by
    obtain ⟨s, hs, hp⟩ := cnt_pos g hl t
    have hr := g.rl L.rows[s] (List.getElem_mem hs)
    have hlen : 0 < L.rows[s].length := by
      rw [hr.1]
      exact List.length_pos_iff.mpr hl
    have hx := hr.2 _ (List.getElem_mem hlen)
    refine ⟨L.rows[s][0], hx, ?_⟩
    have h1 := stp_ge (L := L) (cnt_nn L t) (s + 1) L.rows[s][0] (L.rows.length - (s + 1))
    rw [show s + 1 + (L.rows.length - (s + 1)) = L.rows.length by omega] at h1
    refine Int.lt_of_lt_of_le ?_ h1
    rw [stp.eq_2, if_neg (by omega)]
    have e : L.rows.getD s [] = L.rows[s] := by rw [List.getD_eq_getElem?_getD, List.getElem?_eq_getElem hs]; rfl
    rw [e]
    have h2 := rowAdd_in L.rows[s] (stp L (cnt L t) s) ((cnt L t).getD s 0) L.rows[s][0] (by omega) (List.getElem_mem hlen) (by rw [stp_len]; exact hx)
    have h3 := stp_nn (L := L) (cnt_nn L t) s L.rows[s][0]
    omega
theorem sum_nn : ∀ (xs : List Int), (∀ x ∈ xs, 0 ≤ x) → 0 ≤ xs.sum
  | [], _ => Int.le_refl _
  | x :: r, h => by
    rw [List.sum_cons]
    have h1 := h x List.mem_cons_self
    have h2 := sum_nn r fun y hy => h y (List.mem_cons_of_mem _ hy)
    omega
theorem sum_pos : ∀ (xs : List Int), (∀ x ∈ xs, 0 ≤ x) → ∀ y, y ∈ xs → 0 < y → 0 < xs.sum
  | x :: r, h, y, hy, hp => by
    rw [List.sum_cons]
    have h1 := h x List.mem_cons_self
    have h3 := sum_nn r fun y hy => h y (List.mem_cons_of_mem _ hy)
    rcases List.mem_cons.mp hy with e | e
    · subst e
      omega
    · have h2 := sum_pos r (fun y hy => h y (List.mem_cons_of_mem _ hy)) y e hp
      omega
theorem count_every {L : Lot} (g : Good L) (hl : L.letters ≠ []) (he : L.ends = List.range L.rows.length) (m : Nat) : countOf L m ≠ 0 := by
  obtain ⟨s, hs, hp⟩ := cnt_pos g hl m
  have := sum_pos (L.ends.map fun e => (cnt L m).getD e 0) (fun x hx => by
    obtain ⟨e, _, rfl⟩ := List.mem_map.mp hx
    exact cnt_nn L m e) _ (List.mem_map.mpr ⟨s, by rw [he]; exact List.mem_range.mpr hs, rfl⟩) hp
  unfold countOf
  omega
/-- a state that no row leads to -/
theorem cnt_out {L : Lot} {k : Nat} (k0 : 0 < k) (h : ∀ r ∈ L.rows, ¬ k ∈ r) : ∀ t, (cnt L t).getD k 0 = 0
  | 0 => by
    unfold cnt
    rw [List.getD_eq_getElem?_getD, List.getElem?_set]
    have := rep0 L.rows.length k
    rw [List.getD_eq_getElem?_getD] at this
    rw [if_neg (by omega), this]
  | t + 1 => by
    show (stp L (cnt L t) L.rows.length).getD k 0 = 0
    generalize L.rows.length = n
    induction n with
    | zero =>
      unfold stp
      exact rep0 _ _
    | succ s ih =>
      rw [stp.eq_2]
      split
      · exact ih
      · rw [rowAdd_out, ih]
        rw [List.getD_eq_getElem?_getD]
        cases e : L.rows[s]? with
        | none => simp
        | some r => exact h r (List.mem_of_getElem? e)
theorem count_never {L : Lot} {k : Nat} (k0 : 0 < k) (h : ∀ r ∈ L.rows, ¬ k ∈ r) (he : L.ends = [k]) (m : Nat) : countOf L m = 0 := by
  unfold countOf
  rw [he]
  simp only [List.map_cons, List.map_nil, List.sum_cons, List.sum_nil]
  rw [cnt_out k0 h m]
  rfl
theorem first_never {L : Lot} {k : Nat} (k0 : 0 < k) (h : ∀ r ∈ L.rows, ∀ x ∈ r, x < k) (he : L.ends = [k]) : firstOf L = none := by
  unfold firstOf
  rw [find_no, Option.map_none]
  intro j y hy
  have := bfs_lt k0 h L.rows.length y (List.mem_of_getElem? hy)
  rw [he]
  simp
  omega
theorem first_nil {L : Lot} (he : L.ends = []) : firstOf L = none := by
  unfold firstOf
  rw [find_no, Option.map_none]
  intro j y hy
  rw [he]
  simp
theorem first_some {L : Lot} {p : Nat × List Nat} (h : p ∈ reach L) (he : p.1 ∈ L.ends) : (firstOf L).isSome = true := by
  unfold firstOf
  rw [Option.isSome_map, List.find?_isSome]
  exact ⟨p, h, decide_eq_true he⟩
/-! ## the chain -/
structure Chain (L : Lot) (m : Nat) (num : Nat → Nat) : Prop where
  m0 : 0 < m
  len : L.rows.length = m
  inj : ∀ i j, i < m → j < m → num i = num j → i = j
  z : num 0 = 0
  lt : ∀ i, i < m → num i < m
  row : ∀ i, i < m → (L.rows.getD (num i) []).length = L.letters.length ∧ ∀ x ∈ L.rows.getD (num i) [], ∃ j, x = num j ∧ j < m ∧ j ≤ i + 1
  on : ∀ i, i + 1 < m → num (i + 1) ∈ L.rows.getD (num i) []
  ends : L.ends = [num (m - 1)]
theorem visJ_chain {row letters t : List Nat} {bs : Bs} {new : Nat} (hn : ¬ new ∈ bs.map (·.1)) (h : ∀ k, k < row.length → row.getD k 0 = new ∨ row.getD k 0 ∈ bs.map (·.1)) : ∀ j, j ≤ row.length →
    (¬ new ∈ row.take j ∧ visJ row letters t bs j = bs) ∨ (new ∈ row.take j ∧ ∃ c, visJ row letters t bs j = bs ++ [(new, t ++ [c])])
  | 0, _ => .inl ⟨by simp, rfl⟩
  | j + 1, hj => by
    have e : row.take (j + 1) = row.take j ++ [row.getD j 0] := by
      rw [List.take_succ_eq_append_getElem (by omega), List.getD_eq_getElem?_getD, List.getElem?_eq_getElem (by omega)]
      rfl
    rw [e]
    show (_ ∧ vis1 _ _ _ = _) ∨ (_ ∧ ∃ c, vis1 _ _ _ = _)
    rcases visJ_chain (letters := letters) (t := t) hn h j (by omega) with ⟨h1, h2⟩ | ⟨h1, c, h2⟩
    · rw [h2]
      rcases h j (by omega) with e2 | e2
      · rw [e2]
        refine .inr ⟨by simp, letters.getD j 0, ?_⟩
        unfold vis1
        rw [if_neg hn]
      · refine .inl ⟨?_, ?_⟩
        · intro hm
          rcases List.mem_append.mp hm with hm | hm
          · exact h1 hm
          · rw [List.mem_singleton.mp hm] at hn
            exact hn e2
        · unfold vis1
          rw [if_pos e2]
    · refine .inr ⟨List.mem_append_left _ h1, c, ?_⟩
      rw [h2]
      unfold vis1
      rw [if_pos]
      rw [List.map_append]
      rcases h j (by omega) with e2 | e2
      · rw [e2]
        simp
      · exact List.mem_append_left _ e2
theorem chain_bfs {L : Lot} {m : Nat} {num : Nat → Nat} (c : Chain L m num) : ∀ i, i < m → (bfs L i).length = i + 1 ∧ ∀ j, j ≤ i → ∃ t, (bfs L i)[j]? = some (num j, t) ∧ t.length = j
  | 0, _ => ⟨rfl, fun j hj => by
    have : j = 0 := by omega
    subst this
    exact ⟨[], by rw [c.z]; rfl, rfl⟩⟩
  | i + 1, hi => by
    obtain ⟨h1, h2⟩ := chain_bfs c i (by omega)
    obtain ⟨t, ht, hl⟩ := h2 i (Nat.le_refl _)
    rw [turn_at ht]
    obtain ⟨r1, r2⟩ := c.row i (by omega)
    have keys : ∀ x, x ∈ (bfs L i).map (·.1) ↔ ∃ j, j ≤ i ∧ x = num j := by
      intro x
      rw [List.mem_map]
      constructor
      · rintro ⟨p, hp, rfl⟩
        obtain ⟨j, hj⟩ := List.mem_iff_getElem?.mp hp
        have hj2 := (List.getElem?_eq_some_iff.mp hj).1
        obtain ⟨t', e, _⟩ := h2 j (by omega)
        rw [e] at hj
        exact ⟨j, by omega, by rw [← Option.some.inj hj]⟩
      · rintro ⟨j, hj, rfl⟩
        obtain ⟨t', e, _⟩ := h2 j hj
        exact ⟨_, List.mem_of_getElem? e, rfl⟩
    have hn : ¬ num (i + 1) ∈ (bfs L i).map (·.1) := by
      rw [keys]
      rintro ⟨j, hj, e⟩
      have := c.inj _ _ hi (by omega) e
      omega
    have hk : ∀ k, k < (L.rows.getD (num i) []).length → (L.rows.getD (num i) []).getD k 0 = num (i + 1) ∨ (L.rows.getD (num i) []).getD k 0 ∈ (bfs L i).map (·.1) := by
      intro k hk
      have e : (L.rows.getD (num i) []).getD k 0 = (L.rows.getD (num i) [])[k] := by
        rw [List.getD_eq_getElem?_getD, List.getElem?_eq_getElem hk]
        rfl
      obtain ⟨j, e2, hj, hji⟩ := r2 _ (List.getElem_mem hk)
      rw [e, e2]
      by_cases hj2 : j = i + 1
      · exact .inl (by rw [hj2])
      · exact .inr ((keys _).mpr ⟨j, by omega, rfl⟩)
    have := visJ_chain (letters := L.letters) (t := t) hn hk (L.rows.getD (num i) []).length (Nat.le_refl _)
    rw [List.take_length] at this
    rcases this with ⟨h3, _⟩ | ⟨_, ch, h3⟩
    · exact absurd (c.on i hi) h3
    · rw [r1] at h3
      show (visJ (L.rows.getD (num i) []) L.letters t (bfs L i) L.letters.length).length = _ ∧ _
      rw [h3]
      refine ⟨by rw [List.length_append, h1]; rfl, fun j hj => ?_⟩
      by_cases hj2 : j = i + 1
      · subst hj2
        refine ⟨t ++ [ch], ?_, by rw [List.length_append, hl]; rfl⟩
        rw [List.getElem?_append_right (by omega), h1, Nat.sub_self]
        rfl
      · obtain ⟨t', e, hl'⟩ := h2 j (by omega)
        refine ⟨t', ?_, hl'⟩
        rw [List.getElem?_append_left (by omega)]
        exact e
theorem chain_first {L : Lot} {m : Nat} {num : Nat → Nat} (g : Good L) (c : Chain L m num) : ∃ t, firstOf L = some t ∧ t.length = m - 1 := by
  have m0 := c.m0
  obtain ⟨h1, h2⟩ := chain_bfs c (m - 1) (by omega)
  obtain ⟨t, ht, hl⟩ := h2 (m - 1) (Nat.le_refl _)
  refine ⟨t, ?_, hl⟩
  unfold firstOf
  have hm := c.len
  rw [find_at (i := m - 1) (x := (num (m - 1), t)) ?_ (reach_at ht (by omega)) (by rw [c.ends]; simp)]
  · rfl
  · intro j hj y hy
    obtain ⟨t', e, _⟩ := h2 j (by omega)
    have e2 := reach_at e (by omega)
    rw [e2] at hy
    rw [← Option.some.inj hy, c.ends]
    simp
    intro e3
    have := c.inj _ _ (by omega) (by omega) e3
    omega
def topS (i : Nat) : Stmt := PySem.Challenge.pw_seamsight_k07_least_texts_counts.main.body.getD i (.Pass ⟨0, 0, 0, 0⟩)
/-! ## the promises -/
def optV : Option (List Nat) → V
  | none => .non
  | some l => vS l
def b2 (b : Bool) : Int := if b then 1 else 0
theorem b2_nn (b : Bool) : 0 ≤ b2 b := by cases b <;> decide
def spDraw : Sp := fun vs H Q _ => ∃ (p g : Addr) (m : Int), vs = [.ref p, .int m] ∧ Pool p g H ∧ 0 < m ∧ m < 1073741824 ∧ ∀ H' r, 0 ≤ r → r < m → Pool p g H' → Kp p g H H' → Q (.int r) H'
def spPool (K : PySem.W.Frag) : Sp := fun vs H Q _ => ∃ (a : Addr) (ns : List Int), vs = [.ref a] ∧ SqL K H a (ns.map V.int) ∧ ns.length ≤ 63 ∧ ∀ H' p g, H p = none → H g = none → Pool p g H' → Same H H' → Q (.ref p) H'
def spLetters : Sp := fun vs H Q _ => ∃ (p g : Addr) (m : Int), vs = [.ref p, .int m] ∧ Pool p g H ∧ 1 ≤ m ∧ m ≤ 6 ∧ ∀ H' l, l ≠ [] → l.length ≤ 6 → Pool p g H' → Kp p g H H' → Q (vS l) H'
def spLot (K : PySem.W.Frag) : Sp := fun vs H Q _ => ∃ (p g : Addr) (l : List Nat) (m : Int), vs = [.ref p, vS l, .int m] ∧ Pool p g H ∧ l ≠ [] ∧ l.length ≤ 6 ∧ 1 ≤ m ∧ m ≤ 300 ∧
  ∀ H' L x, Good L → L.letters = l → (L.rows.length : Int) ≤ m → LotAt K H' x L → Pool p g H' → Kp p g H H' → Q (.ref x) H'
def spChain (K : PySem.W.Frag) : Sp := fun vs H Q _ => ∃ (p g : Addr) (l : List Nat) (m : Nat), vs = [.ref p, vS l, vI m] ∧ Pool p g H ∧ l ≠ [] ∧ l.length ≤ 6 ∧ 1 ≤ m ∧ m ≤ 300 ∧
  ∀ H' L x num, Good L → Chain L m num → LotAt K H' x L → Pool p g H' → Kp p g H H' → Q (.ref x) H'
def spFirst (K : PySem.W.Frag) : Sp := fun vs H Q _ => ∃ (x : Addr) (L : Lot), vs = [.ref x] ∧ LotAt K H x L ∧ Good L ∧ ∀ H', Same H H' → Q (optV (firstOf L)) H'
def spReached (K : PySem.W.Frag) : Sp := fun vs H Q _ => ∃ (x : Addr) (L : Lot), vs = [.ref x] ∧ LotAt K H x L ∧ Good L ∧
  ∀ H' a b c, Same H H' → SqT K H' a [.ref b, .ref c] → H' b = some (.lst ((reach L).map fun p => vI p.1)) → H' c = some (.lst ((reach L).map fun p => vS p.2)) → Q (.ref a) H'
def spCount (K : PySem.W.Frag) : Sp := fun vs H Q _ => ∃ (x : Addr) (L : Lot) (m : Nat), vs = [.ref x, vI m] ∧ LotAt K H x L ∧ Good L ∧ m ≤ 1000 ∧ ∀ H', Same H H' → Q (.int (countOf L m)) H'
/-- all stays but the list at q -/
def But (q : Addr) (H H' : Hp) : Prop := ∀ b o, b ≠ q → H b = some o → H' b = some o
def spFirstR (K : PySem.W.Frag) : Sp := fun vs H Q _ => ∃ (x q : Addr) (L : Lot) (a b c d : Int), vs = [.ref x, .ref q] ∧ LotAt K H x L ∧ Good L ∧ H q = some (.lst [.int a, .int b, .int c, .int d]) ∧
  ∀ H', But q H H' → H' q = some (.lst [.int (a + b2 (firstOf L).isNone), .int (b + b2 (firstOf L).isSome), .int c, .int d]) → Q (.bl true) H'
def spCountR (K : PySem.W.Frag) : Sp := fun vs H Q _ => ∃ (x q : Addr) (L : Lot) (m : Nat) (a b c d : Int), vs = [.ref x, vI m, .ref q] ∧ LotAt K H x L ∧ Good L ∧ m ≤ 1000 ∧ H q = some (.lst [.int a, .int b, .int c, .int d]) ∧
  ∀ H', But q H H' → H' q = some (.lst [.int a, .int b, .int (c + b2 (decide (countOf L m = 0))), .int (d + b2 (!decide (countOf L m = 0)))]) → Q (.bl true) H'
def spLots (K : PySem.W.Frag) : Sp := fun vs H Q _ => ∃ (p g q : Addr) (l : List Nat), vs = [.ref p, vS l, .ref q] ∧ Pool p g H ∧ q ≠ p ∧ q ≠ g ∧ l ≠ [] ∧ l.length ≤ 6 ∧ H q = some (.lst [.int 0, .int 0, .int 0, .int 0]) ∧
  ∀ H' a b c d, 2 ≤ a → 2 ≤ b → 1 ≤ c → 1 ≤ d → Pool p g H' → H' q = some (.lst [.int a, .int b, .int c, .int d]) → Q (.bl true) H'
def spLaw (K : PySem.W.Frag) : Sp := fun vs H Q _ => ∃ (a : Addr) (ns : List Int), vs = [.ref a] ∧ SqL K H a (ns.map V.int) ∧ ns.length ≤ 63 ∧ ∀ H', Q (.bl true) H'
local macro_rules | `(tactic| walk_at "tx") => `(tactic| first
  | exact Tx.refl _
  | assumption
  | (refine Tx.new ?_ (by assumption); walk_at "tx")
  | (refine Tx.lst ?_ (by walk_at "get"); walk_at "tx")
  | (refine Tx.dk ?_ (by walk_at "get"); walk_at "tx"))
local macro_rules | `(tactic| walk_at "same") => `(tactic| first
  | assumption
  | exact Same.refl _
  | (refine Same.mut ?_ (by assumption); walk_at "same")
  | (refine Same.new' ?_ (by assumption); walk_at "same"))
local macro_rules | `(tactic| walk_at "ne") => `(tactic| first
  | assumption
  | exact Ne.symm (by assumption)
  | exact (ne_of_none (by assumption) (by assumption))
  | exact (ne_of_none (by assumption) (by assumption)).symm)
local macro_rules | `(tactic| walk_at "get") => `(tactic| first
  | assumption
  | exact upd_same
  | (refine get_ne ?_ ?_; (walk_at "ne"); (walk_at "get")))
local macro_rules | `(tactic| walk_at "sql") => `(tactic| first
  | assumption
  | exact SqL.of (by walk_at "get"))
local macro_rules | `(tactic| walk_at "sqt") => `(tactic| first
  | assumption
  | exact SqT.of (by walk_at "get")
  | (refine Tx.sqT ?_ (by assumption); walk_at "tx"))
local macro_rules | `(tactic| walk_at "at") => `(tactic| first
  | rfl
  | exact atI_nat (by assumption))
local macro_rules | `(tactic| walk_at "side") => `(tactic| first
  | assumption
  | omega
  | decide
  | (simp only [List.length_append, List.length_map, List.length_cons, List.length_nil] ; omega))
local macro_rules | `(tactic| walk_at "cond") => `(tactic| first
  | (show (0 : Int) < _; omega)
  | (show _ ∧ _; constructor <;> omega)
  | (refine .inl ⟨?_, ?_⟩ <;> omega)
  | (refine .inr ⟨?_, ?_⟩ <;> omega))
local macro_rules | `(tactic| walk_at "s") => `(tactic| first
  | (with_reducible refine w_seq ?_)
  | (with_reducible refine w_asg ?_)
  | (with_reducible refine w_gName ?_)
  | ((with_reducible refine' w_var ?hv ?_); (case hv => rfl))
  | (with_reducible refine w_c ?_)
  | (with_reducible refine w_op ?_)
  | (with_reducible refine w_un ?_)
  | (with_reducible refine w_nil ?_)
  | (with_reducible refine w_cons ?_)
  | (with_reducible refine w_CB ?_)
  | (with_reducible refine w_call ?_)
  | (with_reducible refine w_drop ?_)
  | (with_reducible refine w_ret ?_)
  | (with_reducible refine w_retN ?_)
  | (with_reducible refine w_next ?_)
  | (with_reducible refine w_brk ?_)
  | (with_reducible refine w_cont ?_)
  | (with_reducible refine w_if ?_)
  | (with_reducible refine w_test ?_)
  | (with_reducible refine w_tB ?_)
  | (with_reducible refine w_tru ?_)
  | (with_reducible refine w_exbl ?_)
  | (with_reducible refine w_and ?_)
  | (with_reducible refine w_or ?_)
  | (with_reducible refine w_not ?_)
  | (with_reducible refine w_andV ?_)
  | (with_reducible refine w_orV ?_)
  | (with_reducible refine w_notV ?_)
  | (with_reducible refine w_ifE ?_)
  | (with_reducible refine w_tup ?_)
  | (with_reducible refine w_lst ?_)
  | (with_reducible refine w_sl ?_)
  | (with_reducible refine w_nopart ?_)
  | (with_reducible refine w_part ?_)
  | (with_reducible refine w_exint ?_)
  | (with_reducible refine w_BM ?_)
  | (with_reducible refine w_BM0 ?_)
  | (with_reducible refine w_M0 ?_)
  | (with_reducible refine w_M1 ?_)
  | (with_reducible refine w_exstr ?_)
  | (with_reducible refine w_rI0 ?_)
  | (with_reducible refine w_rU ?_)
  | (with_reducible refine w_eqI ?_)
  | (with_reducible refine w_neI ?_)
  | (with_reducible refine w_eqS ?_)
  | (with_reducible refine w_neS ?_)
  | (with_reducible refine w_for1 ?_)
  | (with_reducible refine w_for2 ?_)
  | (with_reducible refine w_forL ?_)
  | (with_reducible refine w_forT ?_)
  | (with_reducible refine w_forE ?_)
  | (with_reducible refine w_lcT ?_)
  | (with_reducible refine w_lcL ?_)
  | (with_reducible refine w_yes ?_)
  | (with_reducible refine w_dgetQ ?_)
  | (with_reducible refine w_dinQ ?_)
  | (with_reducible refine w_dninQ ?_)
  | (with_reducible refine w_forEL ?_)
  | (with_reducible refine w_forS ?_)
  | (with_reducible refine w_lcR1 ?_)
  | (with_reducible refine w_lcR2 ?_)
  | (with_reducible refine w_lcS ?_)
  | (with_reducible refine w_augS ?_)
  | (with_reducible refine w_ipI ?_)
  | (with_reducible refine w_tupRg ?_)
  | (with_reducible refine w_rg1 ?_)
  | (with_reducible refine w_rg1Q ?_)
  | (with_reducible refine w_isN ?_)
  | (with_reducible refine w_notN ?_)
  | (with_reducible refine w_int ?_)
  | (with_reducible refine w_abs ?_)
  | (with_reducible refine w_min ?_)
  | ((with_reducible refine' w_gTup ?h1 ?h2 ?_); (case h1 => walk_at "sqt"); (case h2 => rfl))
  | ((with_reducible refine' w_ixL ?h1 ?h2 ?_); (case h1 => walk_at "sql"); (case h2 => walk_at "at"))
  | ((with_reducible refine' w_ixT ?h1 ?h2 ?_); (case h1 => walk_at "sqt"); (case h2 => walk_at "at"))
  | ((with_reducible refine' w_ixAT ?h1 ?h2 ?_); (case h1 => walk_at "sqt"); (case h2 => walk_at "at"))
  | ((with_reducible refine' w_ixS ?h1 ?h2 ?_); (case h1 => walk_at "side"); (case h2 => walk_at "at"))
  | ((with_reducible refine' w_tyL ?h ?_); (case h => walk_at "get"))
  | ((with_reducible refine' w_truS ?h ?_); (case h => walk_at "side"))
  | ((with_reducible refine' w_truL ?h ?_); (case h => walk_at "sql"))
  | ((with_reducible refine' w_truT ?h ?_); (case h => walk_at "sqt"))
  | ((with_reducible refine' w_append ?h1 ?h2 ?_); (case h1 => walk_at "get"); (case h2 => walk_at "side"))
  | ((with_reducible refine' w_lenS ?h ?_); (case h => walk_at "side"))
  | ((with_reducible refine' w_lenL ?h ?_); (case h => walk_at "sql"))
  | ((with_reducible refine' w_lenT ?h ?_); (case h => walk_at "sqt"))
  | ((with_reducible refine' w_addS ?h ?_); (case h => walk_at "side"))
  | ((with_reducible refine' w_mulS ?h1 ?h2 ?h3 ?_); (case h1 => walk_at "side"); (case h2 => walk_at "side"); (case h3 => walk_at "side"))
  | ((with_reducible refine' w_slS ?h ?_); (case h => walk_at "side"))
  | ((with_reducible refine' w_setL ?h1 ?h2 ?_); (case h1 => walk_at "get"); (case h2 => rfl))
  | ((with_reducible refine' w_rI ?h ?_); (case h => walk_at "cond"))
  | (with_reducible refine w_gCons ?_)
  | (with_reducible refine w_gNil ?_)
  | (with_reducible refine w_gSub ?_)
  | (with_reducible refine iteT ?_)
  | (with_reducible refine iteF ?_)
  | (with_reducible refine ite_nt ?_)
  | (with_reducible refine ite_nf ?_)
  | ((with_reducible refine' w_eqR ?h ?_); (case h => rfl)))
local macro_rules | `(tactic| walk_at "go") => `(tactic| repeat walk_at "s")
section
variable {P : Program} {w : World} {K : PySem.W.Frag} {mg : Str → Option Value} {base : Heap}
abbrev s_least_text : Stmt := topS 1
theorem sc_least_text : FnScope ["lot", "letters", "steps", "ends", "found", "queue", "at", "state", "place", "letter", "other"] ["lot"] (defScope s_least_text) := ⟨rfl, rfl, rfl, by decide +kernel, rfl, by decide +kernel, by decide +kernel⟩
/-- the dict of the states found -/
abbrev kvB (bs : Bs) : List (Key × V) := bs.map fun p => (Sum.inl (p.1 : Int), vS p.2)
theorem kvB_get : ∀ (bs : Bs) (i : Nat) (p : Nat × List Nat), (bs.map (·.1)).Nodup → bs[i]? = some p → valV (kvB bs) (Sum.inl (p.1 : Int)) = some (vS p.2)
  | a :: r, 0, p, _, e => by
    have : a = p := Option.some.inj e
    subst this
    exact valV_pos rfl
  | a :: r, i + 1, p, nd, e => by
    rw [List.map_cons, List.nodup_cons] at nd
    have hp : p ∈ r := List.mem_of_getElem? (i := i) e
    show valV ((Sum.inl (a.1 : Int), vS a.2) :: kvB r) _ = _
    rw [valV_neg]
    · exact kvB_get r i p nd.2 e
    · intro z
      have : a.1 = p.1 := Int.ofNat.inj (Sum.inl.inj z)
      exact nd.1 (this ▸ List.mem_map_of_mem hp)
theorem kvB_has : ∀ (bs : Bs) (o : Nat), (valV (kvB bs) (Sum.inl (o : Int))).isSome = decide (o ∈ bs.map (·.1))
  | [], o => rfl
  | a :: r, o => by
    show (valV ((Sum.inl (a.1 : Int), vS a.2) :: kvB r) _).isSome = decide (o ∈ a.1 :: r.map (·.1))
    by_cases h : a.1 = o
    · subst h
      rw [valV_pos rfl]
      simp
    · rw [valV_neg (fun z => h (Int.ofNat.inj (Sum.inl.inj z))), kvB_has r o]
      have h' : ¬ o = a.1 := fun e => h e.symm
      simp [h']
theorem ok_least_text (F : At K mg "least_text" s_least_text) (b_len : mg "len" = none) (b_enumerate : mg "enumerate" = none) : Cal P w K mg base 1 "least_text" (spFirst K) := by
  refine F.cal sc_least_text (fun vs H Q E h => ?_) (fun _ _ _ _ _ _ us hl => match us, hl with | [_], _ => rfl) (fun f cdv A outer s H vs Q E hr h => ?_)
  · obtain ⟨x, L, rfl, _⟩ := h
    rfl
  · obtain ⟨x, L, rfl, hL, hg, q⟩ := h
    refine ⟨_, (pss_cons (ps_asg (pv 0) (pg_tup rfl (pgs_cons (pg_name (i := 1) sc_least_text.nd rfl (.inl rfl)) (pgs_cons (pg_name (i := 2) sc_least_text.nd rfl (.inl rfl)) (pgs_cons (pg_name (i := 3) sc_least_text.nd rfl (.inl rfl)) pgs_nil)))))
      (pss_cons (ps_set (i := 4) sc_least_text.nd rfl (.inl rfl) (pe_disp (pps_cons pe_int (pe_strL [] (by decide +kernel)) pps_nil) rfl rfl (by simp) (by simp)))
      (pss_cons (ps_set (i := 5) sc_least_text.nd rfl (.inl rfl) (pe_lst (pa_cons pe_int pa_nil)))
      (pss_cons (ps_set (i := 6) sc_least_text.nd rfl (.inl rfl) pe_int)
      (pss_cons (ps_while PassesOwn.never (pt_cmpR op_lt (pv 6) (pe_callB call_lenQ (by rfl) b_len PySem.boot_len (pa_cons (pv 5) pa_nil)) (nomark _))
      (pss_cons (ps_set (i := 7) sc_least_text.nd rfl (.inl rfl) (pe_ix ix_list (pv 5) (pv 6) (fun _ _ => rfl)))
      (pss_cons (ps_aug (i := 6) sc_least_text.nd rfl (.inl rfl) pe_int ip_add)
      (pss_cons (ps_if (pt_cmpR op_inI (pv 7) (pv 3) (by rfl)) (pss_one (ps_ret (pe_dget hr.units1 (pv 4) (pv 7) (fun _ _ => rfl)))) pss_nil)
      (pss_one (ps_for PassesOwn.never rfl (pi_enumS (by rfl) b_enumerate (pa_cons (pv 1) pa_nil)) (pg_tup rfl (pgs_cons (pg_name (i := 8) sc_least_text.nd rfl (.inl rfl)) (pgs_cons (pg_name (i := 9) sc_least_text.nd rfl (.inl rfl)) pgs_nil)))
      (pss_cons (ps_set (i := 10) sc_least_text.nd rfl (.inl rfl) (pe_ix ix_tup (pe_ix ix_tup (pv 2) (pv 7) (fun _ _ => rfl)) (pv 8) (fun _ _ => rfl)))
      (pss_one (ps_if (pt_cmp (pc_dnotin hr.units1 (pv 10) (pv 4)) (by rfl)) (pss_cons (ps_asg (pe_op op_addS (pe_dget hr.units1 (pv 4) (pv 7) (fun _ _ => rfl)) (pv 9)) (pg_sub (pv 4) (pv 10) (set_dict hr.units1)))
      (pss_one (ps_expr (pe_bm PySem.F.plainAttrs_list PySem.F.slot_list_append PySem.F.type_list_append mt_append (pv 5) (pa_cons (pv 10) pa_nil))))) pss_nil)))))))))
      (pss_one (ps_ret pe_non))))))), ?_⟩
    refine st_is (σ' := start _ _) (σ := [some (.ref x), none, none, none, none, none, none, none, none, none, none]) rfl ?_
    try dsimp only [cxOf, Cx.nox, Cx.wish]
    obtain ⟨b, c, hx, ⟨rs, hb, hbl, hrs⟩, hc⟩ := hL
    have n0 := hg.n0
    have n1 := hg.n1
    walk_at "go"
    refine w_disp1 fun d hd => ?_
    walk_at "go"
    refine w_disp1Q (k := Sum.inl 0) rfl upd_same ?_
    rw [upd_upd]
    walk_at "go"
    refine w_new (by simp) fun e he => ?_
    have hde : d ≠ e := ne_of_none upd_same he
    have he0 := (none_of_upd he).1
    have sm0 : Same H (upd (upd H d (.dK [(Sum.inl 0, vS [])])) e (.lst [V.int 0])) := Same.new' (same_new hd) he
    walk_at "go"
    refine w_while (fun n σ H' => ∃ i v7 v8 v9 v10, n = L.rows.length - i ∧ i ≤ L.rows.length ∧ σ = [some (.ref x), some (vS L.letters), some (.ref b), some (.ref c), some (.ref d), some (.ref e), some (vI i), v7, v8, v9, v10] ∧ i ≤ (bfs L i).length ∧
        (∀ j, j < i → ∀ p, (reach L)[j]? = some p → decide (p.1 ∈ L.ends) = false) ∧ H' d = some (.dK (kvB (bfs L i))) ∧ H' e = some (.lst (((bfs L i).map (·.1)).map vI)) ∧ Same H H') L.rows.length
      ⟨0, _, _, _, _, rfl, Nat.zero_le _, rfl, Nat.zero_le _, fun j hj => absurd hj (Nat.not_lt_zero _), get_ne hde upd_same, upd_same, sm0⟩ ?_ ?_
    · rintro n σ H1 ⟨i, v7, v8, v9, v10, rfl, hin, rfl, hil, hno, hd1, he1, sm⟩
      have tx := Tx.of_same sm
      have hbl2 := bfs_len hg i
      walk_at "go"
      rw [List.length_map, List.length_map]
      by_cases hlt : i < (bfs L i).length
      · rw [decide_eq_true (by omega)]
        walk_at "go"
        obtain ⟨p, hp⟩ : ∃ p, (bfs L i)[i]? = some p := ⟨_, List.getElem?_eq_getElem hlt⟩
        have hi : i < L.rows.length := by omega
        have hpl := bfs_lt hg.n0 (fun r hr => (hg.rl r hr).2) i p (List.mem_of_getElem? hp)
        have hpt := bfs_txt i p (List.mem_of_getElem? hp)
        have hnd := bfs_nd L i
        have hrp := reach_at hp hin
        refine w_ixL (SqL.of he1) (atI_nat (at_map (f := vI) (by rw [List.getElem?_map, hp]; rfl))) ?_
        walk_at "go"
        refine w_aug rfl ?_
        walk_at "go"
        refine w_inIT (tx.sqT hc) ?_
        by_cases hend : p.1 ∈ L.ends
        · rw [decide_eq_true hend]
          walk_at "go"
          refine w_dget (k := Sum.inl (p.1 : Int)) rfl hd1 (kvB_get _ _ _ hnd hp) ?_
          have hf : firstOf L = some p.2 := by
            unfold firstOf
            rw [find_at hno hrp (decide_eq_true hend)]
            rfl
          have := q H1 sm
          rw [hf] at this
          exact this
        · rw [decide_eq_false hend]
          walk_at "go"
          obtain ⟨r, hr⟩ : ∃ r, L.rows[p.1]? = some r := ⟨_, List.getElem?_eq_getElem hpl⟩
          obtain ⟨a, ha1, ha2⟩ := hrs p.1 r hr
          have er := getD_of (d := []) hr
          have hrl := (hg.rl r (List.mem_of_getElem? hr)).1
          refine w_enuQ (fun j σ H' => ∃ v8 v9 v10, σ = [some (.ref x), some (vS L.letters), some (.ref b), some (.ref c), some (.ref d), some (.ref e), some (vI (i + 1)), some (vI p.1), v8, v9, v10] ∧
              H' d = some (.dK (kvB (visJ r L.letters p.2 (bfs L i) j))) ∧ H' e = some (.lst (((visJ r L.letters p.2 (bfs L i) j).map (·.1)).map vI)) ∧ Same H H')
            ⟨_, _, _, rfl, hd1, he1, sm⟩ ?_ ?_
          · rintro j ch σ H2 T hch ⟨v8, v9, v10, rfl, hd2, he2, sm2⟩ hT
            have tx2 := Tx.of_same sm2
            have hjl := (List.getElem?_eq_some_iff.mp hch).1
            have hro := getD_at (xs := r) (i := j) (d := 0) (by omega)
            have hd3 : upd H2 T (.tup [.int (j : Nat), vS [ch]]) d = some (.dK (kvB (visJ r L.letters p.2 (bfs L i) j))) := get_ne (ne_of_none hd2 hT) hd2
            have he3 : upd H2 T (.tup [.int (j : Nat), vS [ch]]) e = some (.lst (((visJ r L.letters p.2 (bfs L i) j).map (·.1)).map vI)) := get_ne (ne_of_none he2 hT) he2
            have sm3 : Same H (upd H2 T (.tup [.int (j : Nat), vS [ch]])) := Same.new' sm2 hT
            have tx3 := Tx.of_same sm3
            have hpre := visJ_pre r L.letters p.2 (bfs L i) j
            have hnd2 := visJ_nd (row := r) (letters := L.letters) (t := p.2) hnd j
            have hlen : (visJ r L.letters p.2 (bfs L i) j).length ≤ L.rows.length := by
              have := nd_le L.rows.length _ hnd2 fun y hy => by
                obtain ⟨z, hz, rfl⟩ := List.mem_map.mp hy
                refine visJ_all (P := fun s _ => s < L.rows.length) (bfs_lt hg.n0 (fun r hr => (hg.rl r hr).2) i) j (fun k _ => ?_) z hz
                have := mem_getD_row (s := p.1) hg.n0 (fun r hr => (hg.rl r hr).2) k
                rwa [er] at this
              rwa [List.length_map] at this
            walk_at "go"
            refine w_ixT (tx3.sqT ha2) (atI_nat (at_map hro)) ?_
            walk_at "go"
            refine w_dnin (k := Sum.inl ((r.getD j 0 : Nat) : Int)) rfl hd3 ?_
            rw [kvB_has]
            have eb : ∀ hm : ¬ r.getD j 0 ∈ (visJ r L.letters p.2 (bfs L i) j).map (·.1), visJ r L.letters p.2 (bfs L i) (j + 1) = visJ r L.letters p.2 (bfs L i) j ++ [(r.getD j 0, p.2 ++ [ch])] := by
              intro hm
              show vis1 _ _ _ = _
              unfold vis1
              rw [if_neg hm, getD_of hch]
            by_cases hm : r.getD j 0 ∈ (visJ r L.letters p.2 (bfs L i) j).map (·.1)
            · rw [decide_eq_true hm]
              walk_at "go"
              have e2 : visJ r L.letters p.2 (bfs L i) (j + 1) = visJ r L.letters p.2 (bfs L i) j := by
                show vis1 _ _ _ = _
                unfold vis1
                rw [if_pos hm]
              exact ⟨_, _, _, rfl, by rw [e2]; exact hd3, by rw [e2]; exact he3, sm3⟩
            · have hno2 : valV (kvB (visJ r L.letters p.2 (bfs L i) j)) (Sum.inl ((r.getD j 0 : Nat) : Int)) = none := by
                have := kvB_has (visJ r L.letters p.2 (bfs L i) j) (r.getD j 0)
                rw [decide_eq_false hm] at this
                exact Option.isNone_iff_eq_none.mp (by rw [← Option.not_isSome, this]; rfl)
              rw [decide_eq_false hm]
              walk_at "go"
              refine w_dget (k := Sum.inl (p.1 : Int)) rfl hd3 (kvB_get _ _ _ hnd2 (pre_get hpre hp)) ?_
              walk_at "go"
              refine w_setD (k := Sum.inl ((r.getD j 0 : Nat) : Int)) rfl hd3 (by rw [List.length_map]; omega) ?_
              rw [putK_new _ hno2]
              have he4 := get_ne (o := HO.dK (kvB (visJ r L.letters p.2 (bfs L i) j) ++ [(Sum.inl ((r.getD j 0 : Nat) : Int), vS (p.2 ++ [ch]))])) hde.symm he3
              have hl4 : (((visJ r L.letters p.2 (bfs L i) j).map (·.1)).map vI).length < 16777216 := by rw [List.length_map, List.length_map]; omega
              walk_at "go"
              refine ⟨_, _, _, rfl, ?_, ?_, Same.mut (Same.mut sm3 hd) he0⟩
              · rw [eb hm, get_ne hde upd_same]
                unfold kvB
                rw [List.map_append]
                rfl
              · rw [eb hm, upd_same, List.map_append, List.map_append]
                rfl
          · rintro σ H2 ⟨v8, v9, v10, rfl, hd2, he2, sm2⟩
            have ebs : bfs L (i + 1) = visJ r L.letters p.2 (bfs L i) L.letters.length := by
              rw [turn_at hp, er]
            rw [← ebs] at hd2 he2
            have hle := (bfs_pre L i 1).length_le
            refine ⟨L.rows.length - (i + 1), by omega, i + 1, _, _, _, _, rfl, by omega, rfl, by omega, fun j hj y hy => ?_, hd2, he2, sm2⟩
            by_cases hji : j = i
            · subst hji
              rw [hrp] at hy
              rw [← Option.some.inj hy]
              exact decide_eq_false hend
            · exact hno j (by omega) y hy
      · rw [decide_eq_false (by omega)]
        walk_at "go"
        have hr := reach_eq (L := L) (i := i) (by omega) hin
        have hf : firstOf L = none := by
          unfold firstOf
          rw [find_no, Option.map_none]
          intro j y hy
          have hj := (List.getElem?_eq_some_iff.mp hy).1
          rw [hr] at hj
          exact hno j (by omega) y hy
        have := q H1 sm
        rw [hf] at this
        exact this
    · rintro σ H1 Q Q' hq ⟨v6, e6, v5, e5, p, ys, e, s, i, j, e1, e2, k, e3, h⟩
      exact ⟨v6, e6, v5, e5, p, ys, e, s, i, j, e1, e2, k, e3, hq _ _ h⟩
abbrev s_count_texts : Stmt := topS 2
theorem sc_count_texts : FnScope ["lot", "length", "letters", "steps", "ends", "counts", "_", "further", "state", "count", "other"] ["lot", "length"] (defScope s_count_texts) := ⟨rfl, rfl, rfl, by decide +kernel, rfl, by decide +kernel, by decide +kernel⟩
theorem ok_count_texts (F : At K mg "count_texts" s_count_texts) (b_len : mg "len" = none) (b_range : mg "range" = none) (b_enumerate : mg "enumerate" = none) (b_sum : mg "sum" = none) : Cal P w K mg base 1 "count_texts" (spCount K) := by
  refine F.cal sc_count_texts (fun vs H Q E h => ?_) (fun _ _ _ _ _ _ us hl => match us, hl with | [_, _], _ => rfl) (fun f cdv A outer s H vs Q E hr h => ?_)
  · obtain ⟨x, L, m, rfl, _⟩ := h
    rfl
  · obtain ⟨x, L, m, rfl, hL, hg, hm, q⟩ := h
    refine ⟨_, (pss_cons (ps_asg (pv 0) (pg_tup rfl (pgs_cons (pg_name (i := 2) sc_count_texts.nd rfl (.inl rfl)) (pgs_cons (pg_name (i := 3) sc_count_texts.nd rfl (.inl rfl)) (pgs_cons (pg_name (i := 4) sc_count_texts.nd rfl (.inl rfl)) pgs_nil)))))
      (pss_cons (ps_set (i := 5) sc_count_texts.nd rfl (.inr rfl) (pe_op op_rep (pe_lst (pa_cons pe_int pa_nil)) (pe_callB call_lenQ (by rfl) b_len PySem.boot_len (pa_cons (pv 3) pa_nil))))
      (pss_cons (ps_asg pe_int (pg_sub (pv 5) pe_int set_list))
      (pss_cons (ps_for PassesOwn.never rfl (pi_range1 (by rfl) b_range (pa_cons (pv 1) pa_nil)) (pg_name (i := 6) sc_count_texts.nd rfl (.inl rfl))
      (pss_cons (ps_set (i := 7) sc_count_texts.nd rfl (.inl rfl) (pe_op op_rep (pe_lst (pa_cons pe_int pa_nil)) (pe_callB call_lenQ (by rfl) b_len PySem.boot_len (pa_cons (pv 3) pa_nil))))
      (pss_cons (ps_for PassesOwn.never rfl (pi_enum (by rfl) b_enumerate (pa_cons (pv 5) pa_nil)) (pg_tup rfl (pgs_cons (pg_name (i := 8) sc_count_texts.nd rfl (.inl rfl)) (pgs_cons (pg_name (i := 9) sc_count_texts.nd rfl (.inl rfl)) pgs_nil)))
      (pss_one (ps_if (pt_tru (pv 9) (fun _ => rfl)) (pss_one (ps_for PassesOwn.never rfl (pi_tup (pe_ix ix_tup (pv 3) (pv 8) (fun _ _ => rfl))) (pg_name (i := 10) sc_count_texts.nd rfl (.inl rfl))
      (pss_one (ps_augS (pv 7) (pv 10) get_listI (pv 9) ip_add set_list)))) pss_nil)))
      (pss_one (ps_set (i := 5) sc_count_texts.nd rfl (.inr rfl) (pv 7))))))
      (pss_one (ps_ret (pe_callB (cr_sum rfl) (by rfl) b_sum (by decide +kernel) (pa_cons (pe_lc (own := [("state", 8)]) (g := gName 8) (tt := tYes)  rfl sc_count_texts.nd (pi_tup (pv 4)) (blkOk_by (N := ["lot", "length", "letters", "steps", "ends", "counts", "_", "further", "state", "count", "other"]) (sc := defScope s_count_texts) (by decide +kernel)) (fun _ _ _ _ _ => (pg_name (i := 8) sc_count_texts.nd rfl (.inl rfl))) (fun _ _ _ _ _ => pts_nil) (fun _ _ _ _ _ => (pe_ix (r := rIxL K) ix_list (pv 5) (pv 8) (fun _ _ => rfl)))) pa_nil)))))))), ?_⟩
    refine st_is (σ' := start _ _) (σ := [some (.ref x), some (vI m), none, none, none, none, none, none, none, none, none]) rfl ?_
    try dsimp only [cxOf, Cx.nox, Cx.wish]
    obtain ⟨b, c, hx, ⟨rs, hb, hbl, hrs⟩, hc⟩ := hL
    have n0 := hg.n0
    have n1 := hg.n1
    walk_at "go"
    refine w_new (by simp) fun u hu => ?_
    walk_at "go"
    rw [hbl]
    refine w_rep1 upd_same (by omega) fun e he => ?_
    have he0 := (none_of_upd he).1
    walk_at "go"
    rw [rep_map V.int (0 : Int)]
    refine w_setL (j := 0) upd_same (ixN_n (by rw [List.length_map, List.length_replicate]; exact n0)) ?_
    rw [upd_upd, show V.int 1 = V.int (1 : Int) from rfl, ← List.map_set]
    have sm0 : Same H (upd (upd H u (.lst [V.int 0])) e (.lst ((cnt L 0).map V.int))) := Same.new' (same_new hu) he
    walk_at "go"
    refine w_rng1 (by omega) (by omega) (fun i σ H' => ∃ e v6 v7 v8 v9 v10, σ = [some (.ref x), some (vI m), some (vS L.letters), some (.ref b), some (.ref c), some (.ref e), v6, v7, v8, v9, v10] ∧ H' e = some (.lst ((cnt L i).map V.int)) ∧ H e = none ∧ Same H H')
      ⟨e, _, _, _, _, _, rfl, upd_same, he0, sm0⟩ ?_ ?_
    · rintro t σ H1 ht ⟨e, v6, v7, v8, v9, v10, rfl, hce, he0, sm⟩
      have tx := Tx.of_same sm
      walk_at "go"
      refine w_new (by simp) fun u hu => ?_
      walk_at "go"
      rw [hbl]
      refine w_rep1 upd_same (by omega) fun d hd => ?_
      have hd1 := (none_of_upd hd).1
      have hd0 := Same.fresh sm hd1
      rw [rep_map V.int (0 : Int)]
      have hed : e ≠ d := ne_of_none hce hd1
      have hce2 : upd (upd H1 u (.lst [V.int 0])) d (.lst ((List.replicate L.rows.length (0 : Int)).map V.int)) e = some (.lst ((cnt L t).map V.int)) := get_ne hed (get_ne (ne_of_none hce hu) hce)
      have sm1 : Same H (upd (upd H1 u (.lst [V.int 0])) d (.lst ((List.replicate L.rows.length (0 : Int)).map V.int))) := Same.new' (Same.new' sm hu) hd
      walk_at "go"
      refine w_enlQ (SqL.of hce2) (fun s σ H' => ∃ v8 v9 v10, σ = [some (.ref x), some (vI m), some (vS L.letters), some (.ref b), some (.ref c), some (.ref e), some (vI t), some (.ref d), v8, v9, v10] ∧ H' d = some (.lst ((stp L (cnt L t) s).map V.int)) ∧ H' e = some (.lst ((cnt L t).map V.int)) ∧ Same H H')
        ⟨_, _, _, rfl, upd_same, hce2, sm1⟩ (fun s σ H' _ ⟨_, _, _, _, _, h, _⟩ => SqL.of h) ?_ ?_
      · rintro s v T σ H2 hv ⟨v8, v9, v10, rfl, hd2, he2, sm2⟩ hT
        obtain ⟨cs, hcs, rfl⟩ := map_at hv
        have hs : s < L.rows.length := by
          have := (List.getElem?_eq_some_iff.mp hcs).1
          rwa [cnt_len] at this
        have ecs := getD_of (d := 0) hcs
        have tx2 := Tx.of_same sm2
        walk_at "go"
        refine w_truI ?_
        have hd3 : upd H2 T (.tup [vI s, V.int cs]) d = some (.lst ((stp L (cnt L t) s).map V.int)) := get_ne (ne_of_none hd2 hT) hd2
        have he3 : upd H2 T (.tup [vI s, V.int cs]) e = some (.lst ((cnt L t).map V.int)) := get_ne (ne_of_none he2 hT) he2
        have sm3 : Same H (upd H2 T (.tup [vI s, V.int cs])) := Same.new' sm2 hT
        by_cases hc0 : cs = 0
        · rw [decide_eq_true hc0]
          walk_at "go"
          refine ⟨_, _, _, rfl, ?_, he3, sm3⟩
          rw [hd3, stp.eq_2, if_pos (by rw [ecs]; exact hc0)]
        · rw [decide_eq_false hc0]
          walk_at "go"
          obtain ⟨r, hr⟩ : ∃ r, L.rows[s]? = some r := ⟨_, List.getElem?_eq_getElem hs⟩
          obtain ⟨p, hp1, hp2⟩ := hrs s r hr
          have er := getD_of (d := []) hr
          have tx3 := Tx.of_same sm3
          refine w_ixT (tx3.sqT hb) (atI_nat hp1) ?_
          walk_at "go"
          refine w_tupQ (tx3.sqT hp2) (fun j σ H' => ∃ v10, σ = [some (.ref x), some (vI m), some (vS L.letters), some (.ref b), some (.ref c), some (.ref e), some (vI t), some (.ref d), some (vI s), some (.int cs), v10] ∧ H' d = some (.lst ((rowAdd (stp L (cnt L t) s) (r.take j) cs).map V.int)) ∧ H' e = some (.lst ((cnt L t).map V.int)) ∧ Same H H')
            ⟨_, rfl, hd3, he3, sm3⟩ (fun j σ H' _ ⟨_, _, _, _, h⟩ => (Tx.of_same h).sqT hp2) ?_ ?_
          · rintro j y σ H4 hy ⟨v10, rfl, hd4, he4, sm4⟩
            obtain ⟨o, ho, rfl⟩ := map_at hy
            have hon := (hg.rl r (List.mem_of_getElem? hr)).2 o (List.mem_of_getElem? ho)
            have hol : o < (rowAdd (stp L (cnt L t) s) (r.take j) cs).length := by rw [rowAdd_len, stp_len]; exact hon
            walk_at "go"
            refine w_ixL (SqL.of hd4) (atI_nat (at_map (getD_at (d := 0) hol))) ?_
            walk_at "go"
            refine w_setL (j := o) hd4 (ixN_n (by rw [List.length_map]; exact hol)) ?_
            refine ⟨_, rfl, ?_, get_ne hed he4, Same.mut sm4 hd0⟩
            rw [upd_same, ← List.map_set, List.take_succ_eq_append_getElem (List.getElem?_eq_some_iff.mp ho).1, (List.getElem?_eq_some_iff.mp ho).2]
            unfold rowAdd
            rw [List.foldl_append]
            rfl
          · rintro σ H4 ⟨v10, rfl, hd4, he4, sm4⟩
            refine ⟨_, _, _, rfl, ?_, he4, sm4⟩
            rw [List.length_map, List.take_length] at hd4
            rw [hd4, stp.eq_2, if_neg (by rw [ecs]; exact hc0), ecs, er]
      · rintro σ H2 ⟨v8, v9, v10, rfl, hd2, he2, sm2⟩
        rw [List.length_map, cnt_len] at hd2
        walk_at "go"
        exact ⟨_, _, _, _, _, _, rfl, hd2, hd0, sm2⟩
    · rintro σ H1 ⟨e, v6, v7, v8, v9, v10, rfl, hce, he0, sm⟩
      rw [Int.toNat_natCast] at hce
      have tx := Tx.of_same sm
      walk_at "go"
      refine w_lcTQ (tx.sqT hc) (fun Dl i H' => H' Dl = some (.lst (((L.ends.take i).map fun e => (cnt L m).getD e 0).map V.int)) ∧ H' e = some (.lst ((cnt L m).map V.int)) ∧ Same H1 H')
        (fun Dl hD => ⟨upd_same, get_ne (ne_of_none hce hD) hce, same_new hD⟩) (fun Dl i H' _ ⟨_, _, h⟩ => (tx.trans (Tx.of_same h)).sqT hc) ?_ ?_
      · rintro Dl i y H2 hD hy ⟨hl2, he2, sm2⟩
        obtain ⟨o, ho, rfl⟩ := map_at hy
        have hon := hg.el o (List.mem_of_getElem? ho)
        have hil := (List.getElem?_eq_some_iff.mp ho).1
        have he1 := hg.e1
        walk_at "go"
        refine ⟨rfl, ?_⟩
        walk_at "go"
        refine w_ixL (SqL.of he2) (atI_nat (at_map (getD_at (d := 0) (by rw [cnt_len]; exact hon)))) ?_
        refine w_acc hl2 (by rw [List.length_map, List.length_map, List.length_take]; omega) ⟨?_, get_ne (ne_of_none hce hD) he2, Same.mut sm2 hD⟩
        rw [upd_same, List.take_succ_eq_append_getElem hil, List.map_append, List.map_append, (List.getElem?_eq_some_iff.mp ho).2]
        rfl
      · rintro Dl H2 hD ⟨hl2, he2, sm2⟩
        rw [List.length_map, List.take_length] at hl2
        walk_at "go"
        refine w_sumL (SqL.of hl2) ?_
        exact q _ (sm.trans sm2)
abbrev s__law_pool : Stmt := topS 4
theorem sc__law_pool : FnScope ["script", "cells", "seed", "cell"] ["script"] (defScope s__law_pool) := ⟨rfl, rfl, rfl, by decide +kernel, rfl, by decide +kernel, by decide +kernel⟩
theorem ok__law_pool (F : At K mg "_law_pool" s__law_pool) (b_int : mg "int" = none) (b_abs : mg "abs" = none) : Cal P w K mg base 1 "_law_pool" (spPool K) := by
  refine F.cal sc__law_pool (fun vs H Q E h => ?_) (fun _ _ _ _ _ _ us hl => match us, hl with | [_], _ => rfl) (fun f cdv A outer s H vs Q E hr h => ?_)
  · obtain ⟨p, g, rfl, _⟩ := h
    rfl
  · obtain ⟨a, ns, rfl, hS, hz, q⟩ := h
    refine ⟨_, (pss_cons (ps_setLc (i := 1) (own := [("cell", 3)]) (g := gName 3) (tt := tYes) rfl sc__law_pool.nd rfl rfl (sw_true rfl rfl rfl (by decide +kernel)) (pi_list (pe_slice sl_list (pv 0) po_none (po_some pe_int))) (blkOk_by (N := ["script", "cells", "seed", "cell"]) (sc := defScope s__law_pool) (by decide +kernel)) (fun _ _ _ _ _ => (pg_name (i := 3) sc__law_pool.nd rfl (.inl rfl))) (fun _ _ _ _ _ => pts_nil) (fun _ _ _ _ _ => (pe_callTy call_intI (by rfl) b_int (by decide +kernel) (pa_cons (pv 3) pa_nil))))
      (pss_cons (ps_set (i := 2) sc__law_pool.nd rfl (.inl rfl) pe_int)
      (pss_cons (ps_for PassesOwn.never rfl (pi_list (pv 1)) (pg_name (i := 3) sc__law_pool.nd rfl (.inl rfl))
      (pss_cons (ps_set (i := 2) sc__law_pool.nd rfl (.inl rfl) (pe_op op_mod (pe_op op_add (pe_op op_add (pe_op op_mul (pv 2) pe_int) (pe_op op_mul (pv 3) pe_int)) pe_int) pe_int))
      (pss_one (ps_set (i := 2) sc__law_pool.nd rfl (.inl rfl) (pe_op op_mod (pe_op op_mul (pe_op op_add (pv 2) (pe_op op_fdiv (pv 2) pe_int)) pe_int) pe_int)))))
      (pss_one (ps_ret (pe_lst (pa_cons (pv 2) (pa_cons (pe_lc (own := [("cell", 3)]) (g := gName 3)   rfl sc__law_pool.nd (pi_list (pv 1)) (blkOk_by (N := ["script", "cells", "seed", "cell"]) (sc := defScope s__law_pool) (by decide +kernel)) (fun _ _ _ _ _ => (pg_name (i := 3) sc__law_pool.nd rfl (.inl rfl))) (fun _ _ _ _ _ => (pts_one (pt_cmpR op_ge (pe_callB call_absI (by rfl) b_abs (by decide +kernel) (pa_cons (pv 3) pa_nil)) pe_int (nomark _)))) (fun _ _ _ _ _ => (pe_callB call_absI (by rfl) b_abs (by decide +kernel) (pa_cons (pv 3) pa_nil)))) pa_nil)))))))), ?_⟩
    refine st_is (σ' := start _ _) (σ := [some (.ref a), none, none, none]) rfl ?_
    try dsimp only [cxOf, Cx.nox, Cx.wish]
    walk_at "go"
    refine w_slL hS fun t ht => ?_
    walk_at "go"
    have hcut : (cutL (ns.map V.int) none (some 63)).length ≤ 63 := by
      rw [show (63 : Int) = ((63 : Nat) : Int) from rfl, cutL_to, List.length_take]
      omega
    have hcm : cutL (ns.map V.int) none (some 63) = (ns.take 63).map V.int := by
      rw [show (63 : Int) = ((63 : Nat) : Int) from rfl, cutL_to, List.map_take]
    rw [hcm]
    have ht1 : upd H t (.lst ((ns.take 63).map V.int)) t = some (.lst ((ns.take 63).map V.int)) := upd_same
    have sm1 : Same H (upd H t (.lst ((ns.take 63).map V.int))) := same_new ht
    refine w_lcLQ (SqL.of ht1) (fun Dl i H' => H' Dl = some (.lst (((ns.take 63).take i).map V.int)) ∧ H' t = some (.lst ((ns.take 63).map V.int)) ∧ Same H H')
      (fun Dl hD => ⟨upd_same, get_ne (ne_of_none ht1 hD) ht1, sm1.trans (same_new hD)⟩) (fun Dl i H' _ ⟨_, h, _⟩ => SqL.of h) ?_ ?_
    · rintro Dl i x H1 hD hx ⟨hcs, hts, sm⟩
      have hi : i < (ns.take 63).length := by
        have := (List.getElem?_eq_some_iff.mp hx).1
        rw [List.length_map] at this
        exact this
      have ex : x = V.int (ns.take 63)[i] := by
        rw [List.getElem?_map, List.getElem?_eq_getElem hi] at hx
        exact (Option.some.inj hx).symm
      subst ex
      have htD : t ≠ Dl := ne_of_none ht1 hD
      have hD0 : H Dl = none := (none_of_upd hD).1
      walk_at "go"
      refine ⟨rfl, ?_⟩
      have hi63 : i < 63 := by
        rw [List.length_take] at hi
        omega
      walk_at "go"
      refine w_acc hcs (by rw [List.length_map, List.length_take]; omega) ⟨?_, get_ne htD hts, Same.mut sm hD0⟩
      rw [upd_same, List.take_succ_eq_append_getElem hi, List.map_append]
      rfl
    · rintro c H1 hc ⟨hcs, hts, sm⟩
      have hc0 : H c = none := (none_of_upd hc).1
      rw [List.length_map, List.take_length] at hcs
      walk_at "go"
      refine w_lstQ (SqL.of hcs) (fun i σ H' => ∃ sd v, σ = [some (.ref a), some (.ref c), some (.int sd), v] ∧ H' = H1) ⟨_, _, rfl, rfl⟩ (fun i σ H' _ ⟨_, _, _, e⟩ => by rw [e]; exact SqL.of hcs) ?_ ?_
      · rintro i x σ H2 hx ⟨sd, v, rfl, rfl⟩
        obtain ⟨n, rfl⟩ : ∃ n, x = V.int n := by
          rw [List.getElem?_map] at hx
          obtain ⟨n, _, e⟩ := Option.map_eq_some_iff.mp hx
          exact ⟨n, e.symm⟩
        walk_at "go"
        exact ⟨_, _, rfl, rfl⟩
      · rintro σ H2 ⟨sd, v, rfl, rfl⟩
        walk_at "go"
        refine w_lcLQ (SqL.of hcs) (fun Dl i H' => ∃ ms : List Int, ms.length ≤ i ∧ H' Dl = some (.lst (ms.map V.int)) ∧ H' c = some (.lst ((ns.take 63).map V.int)) ∧ Same H H')
          (fun Dl hD => ⟨[], Nat.le_refl _, upd_same, get_ne (ne_of_none hcs hD) hcs, sm.trans (same_new hD)⟩) (fun Dl i H' _ ⟨_, _, _, h, _⟩ => SqL.of h) ?_ ?_
        · rintro Dl i x H3 hD hx ⟨ms, hms, hds, hcs3, sm3⟩
          have hi : i < (ns.take 63).length := by
            have := (List.getElem?_eq_some_iff.mp hx).1
            rw [List.length_map] at this
            exact this
          obtain ⟨n, rfl⟩ : ∃ n, x = V.int n := by
            rw [List.getElem?_map] at hx
            obtain ⟨n, _, e⟩ := Option.map_eq_some_iff.mp hx
            exact ⟨n, e.symm⟩
          have hcD : c ≠ Dl := ne_of_none hcs hD
          have hD0 : H Dl = none := by
            cases h : H Dl with
            | none => rfl
            | some o => rw [sm _ _ h] at hD; cases hD
          walk_at "go"
          refine ⟨rfl, ?_⟩
          walk_at "go"
          refine ite2 (fun e => ?_) (fun e => ?_)
          · walk_at "go"
            refine w_acc hds (by rw [List.length_map]; rw [List.length_take] at hi; omega) ⟨ms ++ [(n.natAbs : Int)], by rw [List.length_append, List.length_singleton]; omega, ?_, get_ne hcD hcs3, Same.mut sm3 hD0⟩
            rw [upd_same, List.map_append]
            rfl
          · exact ⟨ms, by omega, hds, hcs3, sm3⟩
        · rintro g H3 hg ⟨ms, hms, hds, hcs3, sm3⟩
          walk_at "go"
          refine w_new (by simp) fun p hp => ?_
          have hg0 : H g = none := by
            cases h : H g with
            | none => rfl
            | some o => rw [sm _ _ h] at hg; cases hg
          have hp0 : H p = none := by
            cases h : H p with
            | none => rfl
            | some o => rw [sm3 _ _ h] at hp; cases hp
          have hpg : g ≠ p := ne_of_none hds hp
          refine q _ p g hp0 hg0 ⟨hpg.symm, sd, ms, upd_same, get_ne hpg hds, ?_⟩ (sm3.trans (same_new hp))
          rw [List.length_map, List.length_take] at hms
          omega
abbrev s__law_draw : Stmt := topS 5
theorem sc__law_draw : FnScope ["pool", "many", "great", "cell"] ["pool", "many"] (defScope s__law_draw) := ⟨rfl, rfl, rfl, by decide +kernel, rfl, by decide +kernel, by decide +kernel⟩
theorem ok__law_draw (F : At K mg "_law_draw" s__law_draw) (b_int : mg "int" = none) : Cal P w K mg base 1 "_law_draw" spDraw := by
  refine F.cal sc__law_draw (fun vs H Q E h => ?_) (fun _ _ _ _ _ _ us hl => match us, hl with | [_, _], _ => rfl) (fun f cdv A outer s H vs Q E hr h => ?_)
  · obtain ⟨p, g, m, rfl, _⟩ := h
    rfl
  · obtain ⟨p, g, m, rfl, hP, m0, m1, q⟩ := h
    refine ⟨_, (pss_cons (ps_set (i := 2) sc__law_draw.nd rfl (.inl rfl) (pe_ix ix_list (pv 0) pe_int (fun _ _ => rfl)))
      (pss_cons (ps_if (pt_tru (pv 2) (fun _ => rfl)) (pss_cons (ps_set (i := 3) sc__law_draw.nd rfl (.inl rfl) (pe_bm0 PySem.F.plainAttrs_list PySem.F.slot_list_pop PySem.F.type_list_pop mt_pop (pv 2)))
      (pss_cons (ps_if (pt_cmpR op_gt (pe_op op_fdiv (pv 3) (pv 1)) pe_int (nomark _)) (pss_one (ps_expr (pe_bm PySem.F.plainAttrs_list PySem.F.slot_list_append PySem.F.type_list_append mt_append (pv 2) (pa_cons (pe_op op_fdiv (pv 3) (pv 1)) pa_nil)))) pss_nil)
      (pss_one (ps_ret (pe_op op_mod (pe_callTy call_intI (by rfl) b_int (by decide +kernel) (pa_cons (pv 3) pa_nil)) (pv 1)))))) pss_nil)
      (pss_cons (ps_asg (pe_op op_mod (pe_op op_add (pe_op op_mul (pe_ix ix_list (pv 0) pe_int (fun _ _ => rfl)) pe_int) pe_int) pe_int) (pg_sub (pv 0) pe_int set_list))
      (pss_one (ps_ret (pe_op op_mod (pe_op op_fdiv (pe_callTy call_intI (by rfl) b_int (by decide +kernel) (pa_cons (pe_ix ix_list (pv 0) pe_int (fun _ _ => rfl)) pa_nil)) pe_int) (pv 1))))))), ?_⟩
    obtain ⟨ne, x, ns, hp, hg, hn⟩ := hP
    refine st_is (σ' := start _ _) (σ := [some (.ref p), some (.int m), none, none]) rfl ?_
    try dsimp only [cxOf, Cx.nox, Cx.wish]
    walk_at "go"
    by_cases hns : ns = []
    · subst hns
      refine iteF ?_
      walk_at "go"
      refine q _ _ (Int.emod_nonneg _ (by omega)) (Int.emod_lt_of_pos _ m0) ⟨ne, _, [], upd_same, get_ne ne.symm hg, hn⟩ ?_
      exact fun b o h1 h2 h3 => get_ne h1 h3
    · obtain ⟨xs, y, rfl⟩ : ∃ xs y, ns = xs ++ [y] := ⟨ns.dropLast, ns.getLast hns, (List.dropLast_concat_getLast hns).symm⟩
      have e1 : (!(List.map V.int (xs ++ [y])).isEmpty) = true := by simp
      rw [e1]
      rw [List.map_append] at hg
      rw [List.length_append] at hn
      walk_at "go"
      refine w_pop hg ?_
      walk_at "go"
      refine ite2 (fun e => ?_) (fun e => ?_)
      · walk_at "go"
        refine q _ _ (Int.emod_nonneg _ (by omega)) (Int.emod_lt_of_pos _ m0) ⟨ne, x, xs ++ [y / m], ?_, ?_, ?_⟩ ?_
        · rw [upd_upd]
          exact get_ne ne hp
        · rw [upd_same, List.map_append]
          rfl
        · rw [List.length_append]
          exact hn
        · rw [upd_upd]
          exact fun b o h1 h2 h3 => get_ne h2 h3
      · walk_at "go"
        refine q _ _ (Int.emod_nonneg _ (by omega)) (Int.emod_lt_of_pos _ m0) ⟨ne, x, xs, get_ne ne hp, upd_same, by omega⟩ ?_
        exact fun b o h1 h2 h3 => get_ne h2 h3
abbrev s__law_letters : Stmt := topS 6
theorem sc__law_letters : FnScope ["pool", "most", "alphabet", "chosen", "turn", "at", "further"] ["pool", "most"] (defScope s__law_letters) := ⟨rfl, rfl, rfl, by decide +kernel, rfl, by decide +kernel, by decide +kernel⟩
abbrev alphaL : List Nat := [65, 66, 67, 68, 69, 70, 71, 72, 73, 74, 75, 76, 77, 78, 79, 80, 81, 82, 83, 84, 85, 86, 87, 88, 89, 90, 97, 98, 99, 100, 101, 102, 103, 104, 105, 106, 107, 108, 109, 110, 111, 112, 113, 114, 115, 116, 117, 118, 119, 120, 121, 122]
theorem alpha_at (n : Int) : ∃ c, atI alphaL (n % 52) = some c := by
  have h1 := Int.emod_nonneg n (show (52 : Int) ≠ 0 by decide)
  have h2 := Int.emod_lt_of_pos n (show (0 : Int) < 52 by decide)
  obtain ⟨k, e⟩ := Int.eq_ofNat_of_zero_le h1
  have hk : k < alphaL.length := by
    show k < 52
    omega
  rw [e]
  exact ⟨alphaL[k], atI_nat (List.getElem?_eq_getElem hk)⟩
theorem flat_len : ∀ (xs : List (List Nat)), (∀ x ∈ xs, x.length = 1) → xs.flatten.length = xs.length
  | [], _ => rfl
  | x :: xs, h => by
    have h1 := h x List.mem_cons_self
    have h2 := flat_len xs fun y hy => h y (List.mem_cons_of_mem _ hy)
    simp only [List.flatten_cons, List.length_append, List.length_cons]
    omega
theorem ok__law_letters (c__law_draw : Cal P w K mg base 1 "_law_draw" spDraw) (F : At K mg "_law_letters" s__law_letters) (b_range : mg "range" = none) (b_sorted : mg "sorted" = none) : Cal P w K mg base 2 "_law_letters" spLetters := by
  refine F.cal sc__law_letters (fun vs H Q E h => ?_) (fun _ _ _ _ _ _ us hl => match us, hl with | [_, _], _ => rfl) (fun f cdv A outer s H vs Q E hr h => ?_)
  · obtain ⟨p, g, m, rfl, _⟩ := h
    rfl
  · obtain ⟨p, g, m, rfl, hP, m0, m1, q⟩ := h
    refine ⟨_, (pss_cons (ps_set (i := 2) sc__law_letters.nd rfl (.inl rfl) (pe_strL [65, 66, 67, 68, 69, 70, 71, 72, 73, 74, 75, 76, 77, 78, 79, 80, 81, 82, 83, 84, 85, 86, 87, 88, 89, 90, 97, 98, 99, 100, 101, 102, 103, 104, 105, 106, 107, 108, 109, 110, 111, 112, 113, 114, 115, 116, 117, 118, 119, 120, 121, 122] (by decide +kernel)))
      (pss_cons (ps_set (i := 3) sc__law_letters.nd rfl (.inl rfl) (pe_lst pa_nil))
      (pss_cons (ps_for PassesOwn.never rfl (pi_range1 (by rfl) b_range (pa_cons (pe_op op_add pe_int (pe_c c__law_draw hr (by decide) (by rfl) (pa_cons (pv 0) (pa_cons (pv 1) pa_nil)))) pa_nil)) (pg_name (i := 4) sc__law_letters.nd rfl (.inl rfl))
      (pss_cons (ps_set (i := 5) sc__law_letters.nd rfl (.inl rfl) (pe_c c__law_draw hr (by decide) (by rfl) (pa_cons (pv 0) (pa_cons pe_int pa_nil))))
      (pss_one (ps_for PassesOwn.never rfl (pi_range1 (by rfl) b_range (pa_cons pe_int pa_nil)) (pg_name (i := 6) sc__law_letters.nd rfl (.inl rfl))
      (pss_one (ps_if (pt_cmpR op_ninL (pe_ix ix_S (pv 2) (pe_op op_mod (pe_op op_add (pv 5) (pv 6)) pe_int) (fun _ _ => rfl)) (pv 3) (by rfl)) (pss_cons (ps_expr (pe_bm PySem.F.plainAttrs_list PySem.F.slot_list_append PySem.F.type_list_append mt_append (pv 3) (pa_cons (pe_ix ix_S (pv 2) (pe_op op_mod (pe_op op_add (pv 5) (pv 6)) pe_int) (fun _ _ => rfl)) pa_nil)))
      (pss_one ps_break)) pss_nil))))))
      (pss_one (ps_ret (pe_m1 PySem.F.slot_str_join PySem.F.type_str_join mt_join0 (pe_strL [] (by decide +kernel)) (pe_callB cr_sortedT (by rfl) b_sorted (by decide +kernel) (pa_cons (pv 3) pa_nil)))))))), ?_⟩
    refine st_is (σ' := start _ _) (σ := [some (.ref p), some (.int m), none, none, none, none, none]) rfl ?_
    try dsimp only [cxOf, Cx.nox, Cx.wish]
    walk_at "go"
    refine w_new (by simp) fun c hc => ?_
    walk_at "go"
    have hP1 : Pool p g (upd H c (.lst [])) := hP.new hc
    have kp1 : Kp p g H (upd H c (.lst [])) := Kp.of_same (same_new hc)
    have hcp := hP.ne1 hc
    have hcg := hP.ne2 hc
    refine ⟨p, g, m, rfl, hP1, by omega, by omega, fun H1 r h0 h1 hP2 kp2 => ?_⟩
    have hc1 : H1 c = some (.lst (([] : List (List Nat)).map vS)) := kp2 _ _ hcp hcg upd_same
    walk_at "go"
    refine w_rng1 (by omega) (by omega) (fun i σ H' => ∃ cs v4 v5 v6, σ = [some (.ref p), some (.int m), some (vS alphaL), some (.ref c), v4, v5, v6] ∧ cs.length ≤ i ∧ (0 < i → cs ≠ []) ∧ (∀ x ∈ cs, x.length = 1) ∧ H' c = some (.lst (cs.map vS)) ∧ Pool p g H' ∧ Kp p g H H')
      ⟨[], _, _, _, rfl, Nat.le_refl _, fun h => absurd h (Nat.lt_irrefl 0), (fun _ h => nomatch h), hc1, hP2, kp1.trans kp2⟩ ?_ ?_
    · rintro i σ H2 hi ⟨cs, v4, v5, v6, rfl, hcl, hne, hone, hcs, hP3, kp3⟩
      walk_at "go"
      refine ⟨p, g, 52, rfl, hP3, by omega, by omega, fun H3 r3 h30 h31 hP4 kp4 => ?_⟩
      have hc3 := kp4 _ _ hcp hcg hcs
      walk_at "go"
      refine w_rng1 (by omega) (by omega) (fun j σ H' => ∃ v6, σ = [some (.ref p), some (.int m), some (vS alphaL), some (.ref c), some (.int (i : Nat)), some (.int r3), v6] ∧ (cs = [] → j = 0) ∧ H' = H3)
        ⟨_, rfl, fun _ => rfl, rfl⟩ ?_ ?_
      · rintro j σ H4 hj ⟨v6, rfl, hj0, rfl⟩
        obtain ⟨ch, hch⟩ := alpha_at (r3 + (j : Int))
        walk_at "go"
        refine w_ixS (by simp) hch ?_
        walk_at "go"
        refine w_ninL (SqL.of hc3) ?_
        walk_at "go"
        refine ite2 (fun e => ?_) (fun e => ?_)
        · walk_at "go"
          refine w_ixS (by simp) hch ?_
          have hlt : (cs.map vS).length < 16777216 := by rw [List.length_map]; omega
          walk_at "go"
          refine ⟨cs ++ [[ch]], _, _, _, rfl, by rw [List.length_append, List.length_singleton]; omega, fun _ h => by simp at h, ?_, ?_, hP4.lst hcp hcg, ?_⟩
          · intro x hx
            rcases List.mem_append.mp hx with hx | hx
            · exact hone x hx
            · rw [List.mem_singleton.mp hx]
              rfl
          · rw [upd_same, List.map_append]
            rfl
          · exact fun b o k1 k2 e => get_ne (ne_of_none e hc) ((kp3.trans kp4) b o k1 k2 e)
        · walk_at "go"
          refine ⟨_, rfl, fun hcs0 => ?_, rfl⟩
          subst hcs0
          simp at e
      · rintro σ H4 ⟨v6, rfl, hj0, rfl⟩
        refine ⟨cs, _, _, _, rfl, by omega, fun _ h => ?_, hone, hc3, hP4, kp3.trans kp4⟩
        have := hj0 h
        simp at this
    · rintro σ H2 ⟨cs, v4, v5, v6, rfl, hcl, hne, hone, hcs, hP3, kp3⟩
      walk_at "go"
      refine w_sortedT (SqL.of hcs) (by omega) fun ys t hperm hsorted ht => ?_
      have hy1 : ∀ y ∈ ys, y.length = 1 := fun y hy => hone y (hperm.mem_iff.mp hy)
      have hfl := flat_len ys hy1
      have hpl := hperm.length_eq
      walk_at "go"
      refine w_join0 (SqL.of upd_same) (by omega) ?_
      refine q _ _ ?_ (by omega) (hP3.new ht) (kp3.trans (Kp.of_same (same_new ht)))
      intro h0
      rw [h0] at hfl
      have : cs = [] := List.eq_nil_of_length_eq_zero (by rw [← hpl, ← hfl]; rfl)
      exact hne (by omega) this
abbrev s__law_lot : Stmt := topS 7
theorem sc__law_lot : FnScope ["pool", "letters", "most", "many", "near", "thin", "rows", "at", "row", "letter"] ["pool", "letters", "most"] (defScope s__law_lot) := ⟨rfl, rfl, rfl, by decide +kernel, rfl, by decide +kernel, by decide +kernel⟩
theorem ok__law_lot (c__law_draw : Cal P w K mg base 1 "_law_draw" spDraw) (F : At K mg "_law_lot" s__law_lot) (b_range : mg "range" = none) (b_tuple : mg "tuple" = none) : Cal P w K mg base 2 "_law_lot" (spLot K) := by
  refine F.cal sc__law_lot (fun vs H Q E h => ?_) (fun _ _ _ _ _ _ us hl => match us, hl with | [_, _, _], _ => rfl) (fun f cdv A outer s H vs Q E hr h => ?_)
  · obtain ⟨p, g, l, m, rfl, _⟩ := h
    rfl
  · obtain ⟨p, g, l, m, rfl, hP, hl0, hl6, m1, m2, q⟩ := h
    refine ⟨_, (pss_cons (ps_set (i := 3) sc__law_lot.nd rfl (.inl rfl) (pe_op op_add pe_int (pe_c c__law_draw hr (by decide) (by rfl) (pa_cons (pv 0) (pa_cons (pv 2) pa_nil)))))
      (pss_cons (ps_set (i := 4) sc__law_lot.nd rfl (.inl rfl) (pe_c c__law_draw hr (by decide) (by rfl) (pa_cons (pv 0) (pa_cons pe_int pa_nil))))
      (pss_cons (ps_set (i := 5) sc__law_lot.nd rfl (.inr rfl) (pe_op op_add pe_int (pe_c c__law_draw hr (by decide) (by rfl) (pa_cons (pv 0) (pa_cons pe_int pa_nil)))))
      (pss_cons (ps_set (i := 6) sc__law_lot.nd rfl (.inl rfl) (pe_lst pa_nil))
      (pss_cons (ps_for PassesOwn.never rfl (pi_range1 (by rfl) b_range (pa_cons (pv 3) pa_nil)) (pg_name (i := 7) sc__law_lot.nd rfl (.inl rfl))
      (pss_cons (ps_set (i := 8) sc__law_lot.nd rfl (.inl rfl) (pe_lst pa_nil))
      (pss_cons (ps_for PassesOwn.never rfl (pi_str (pv 1)) (pg_name (i := 9) sc__law_lot.nd rfl (.inl rfl))
      (pss_one (ps_if (pt_cmpR op_eqI (pv 4) pe_int (nomark _)) (pss_one (ps_expr (pe_bm PySem.F.plainAttrs_list PySem.F.slot_list_append PySem.F.type_list_append mt_append (pv 8) (pa_cons (pe_op op_mod (pe_op op_add (pv 7) (pe_c c__law_draw hr (by decide) (by rfl) (pa_cons (pv 0) (pa_cons pe_int pa_nil)))) (pv 3)) pa_nil)))) (pss_one (ps_expr (pe_bm PySem.F.plainAttrs_list PySem.F.slot_list_append PySem.F.type_list_append mt_append (pv 8) (pa_cons (pe_c c__law_draw hr (by decide) (by rfl) (pa_cons (pv 0) (pa_cons (pv 3) pa_nil))) pa_nil)))))))
      (pss_one (ps_expr (pe_bm PySem.F.plainAttrs_list PySem.F.slot_list_append PySem.F.type_list_append mt_append (pv 6) (pa_cons (pe_callTy call_tupL (by rfl) b_tuple (by decide +kernel) (pa_cons (pv 8) pa_nil)) pa_nil)))))))
      (pss_one (ps_ret (pe_tup (pa_cons (pv 1) (pa_cons (pe_callTy call_tupL (by rfl) b_tuple (by decide +kernel) (pa_cons (pv 6) pa_nil)) (pa_cons (pe_callTy call_tupL (by rfl) b_tuple (by decide +kernel) (pa_cons (pe_lc (own := [("at", 7)]) (g := gName 7)   rfl sc__law_lot.nd (pi_range1 (by rfl) b_range (pa_cons (pv 3) pa_nil)) (blkOk_by (N := ["pool", "letters", "most", "many", "near", "thin", "rows", "at", "row", "letter"]) (sc := defScope s__law_lot) (by decide +kernel)) (fun _ _ _ _ _ => (pg_name (i := 7) sc__law_lot.nd rfl (.inl rfl))) (fun _ _ _ _ _ => (pts_one (pt_cmpR op_eqI (pe_c c__law_draw hr (by decide) (by rfl) (pa_cons (pv 0) (pa_cons (pv 5) pa_nil))) pe_int (nomark _)))) (fun _ _ _ _ _ => (pv 7))) pa_nil)) pa_nil))))))))))), ?_⟩
    refine st_is (σ' := start _ _) (σ := [some (.ref p), some (vS l), some (.int m), none, none, none, none, none, none, none]) rfl ?_
    try dsimp only [cxOf, Cx.nox, Cx.wish]
    walk_at "go"
    refine ⟨p, g, m, rfl, hP, by omega, by omega, fun H1 r1 h10 h11 hP1 kp1 => ?_⟩
    walk_at "go"
    refine ⟨p, g, 3, rfl, hP1, by omega, by omega, fun H2 r2 h20 h21 hP2 kp2 => ?_⟩
    walk_at "go"
    refine ⟨p, g, 6, rfl, hP2, by omega, by omega, fun H3 r3 h30 h31 hP3 kp3 => ?_⟩
    walk_at "go"
    refine w_new (by simp) fun c hc => ?_
    obtain ⟨n, hn⟩ := Int.eq_ofNat_of_zero_le (show 0 ≤ 1 + r1 by omega)
    rw [hn]
    have hP4 := hP3.new (o := .lst []) hc
    have kp4 := (kp1.trans kp2).trans (kp3.trans (Kp.of_same (same_new (o := .lst []) hc)))
    have hcp := hP3.ne1 hc
    have hcg := hP3.ne2 hc
    have hc0 : H c = none := by
      cases e : H c with
      | none => rfl
      | some o => rw [((kp1.trans kp2).trans kp3) c o hcp hcg e] at hc; cases hc
    walk_at "go"
    refine w_rng1 (by omega) (by omega) (fun i σ H' => ∃ v7 v8 v9, ∃ (rows : List (List Nat)) (xs : List V), σ = [some (.ref p), some (vS l), some (.int m), some (.int (n : Nat)), some (.int r2), some (.int (1 + r3)), some (.ref c), v7, v8, v9] ∧
        rows.length = i ∧ xs.length = i ∧ (∀ (k : Nat) r, rows[k]? = some r → ∃ t, xs[k]? = some (.ref t) ∧ SqT K H' t (r.map vI)) ∧ (∀ r ∈ rows, r.length = l.length ∧ ∀ x ∈ r, x < n) ∧ H' c = some (.lst xs) ∧ Pool p g H' ∧ Kp p g H H')
      ⟨_, _, _, [], [], rfl, rfl, rfl, fun k r e => by simp at e, (fun r hr => nomatch hr), upd_same, hP4, kp4⟩ ?_ ?_
    · rintro i σ H5 hi ⟨v7, v8, v9, rows, xs, rfl, hrl, hxl, hrx, hgood, hcx, hP5, kp5⟩
      walk_at "go"
      refine w_new (by simp) fun d hd => ?_
      have hdp := hP5.ne1 hd
      have hdg := hP5.ne2 hd
      have hcd : c ≠ d := ne_of_none hcx hd
      walk_at "go"
      refine w_chrQ (fun j σ H' => ∃ v9, ∃ row : List Nat, σ = [some (.ref p), some (vS l), some (.int m), some (.int (n : Nat)), some (.int r2), some (.int (1 + r3)), some (.ref c), some (vI i), some (.ref d), v9] ∧
          row.length = j ∧ (∀ x ∈ row, x < n) ∧ H' d = some (.lst (row.map vI)) ∧ H' c = some (.lst xs) ∧ Pool p g H' ∧ Tx H5 H' ∧ (∀ b o, b ≠ p → b ≠ g → H b = some o → H' b = some o))
        ⟨_, [], rfl, rfl, (fun x hx => nomatch hx), upd_same, get_ne hcd hcx, hP5.new hd, Tx.new (Tx.refl _) hd, fun b o h1 h2 e => get_ne (ne_of_none (kp5 b o h1 h2 e) hd) (kp5 b o h1 h2 e)⟩ ?_ ?_
      · rintro j ch σ H6 hch ⟨v9, row, rfl, hrw, hlt, hd6, hc6, hP6, tx6, kp6⟩
        have hjl := (List.getElem?_eq_some_iff.mp hch).1
        have fin : ∀ (H7 : Hp) (y : Int), 0 ≤ y → y < n → Pool p g H7 → Kp p g H6 H7 → ∃ row' : List Nat,
          row'.length = j + 1 ∧ (∀ x ∈ row', x < n) ∧ upd H7 d (.lst (row.map vI ++ [V.int y])) d = some (.lst (row'.map vI)) ∧ upd H7 d (.lst (row.map vI ++ [V.int y])) c = some (.lst xs) ∧ Pool p g (upd H7 d (.lst (row.map vI ++ [V.int y]))) ∧ Tx H5 (upd H7 d (.lst (row.map vI ++ [V.int y]))) ∧ (∀ b o, b ≠ p → b ≠ g → H b = some o → upd H7 d (.lst (row.map vI ++ [V.int y])) b = some o) := by
          intro H7 y y0 y1 hP7 kp7
          obtain ⟨k, rfl⟩ := Int.eq_ofNat_of_zero_le y0
          have hd7 := kp7 _ _ hdp hdg hd6
          refine ⟨row ++ [k], by rw [List.length_append, hrw]; rfl, fun x hx => ?_, ?_, get_ne hcd (kp7 _ _ hcp hcg hc6), hP7.lst hdp hdg, Tx.lst (tx6.trans (kp7.tx hP6)) hd7, fun b o h1 h2 e => ?_⟩
          · rcases List.mem_append.mp hx with hx | hx
            · exact hlt x hx
            · rw [List.mem_singleton.mp hx]
              omega
          · rw [upd_same, List.map_append]
            rfl
          · exact get_ne (ne_of_none (kp5 b o h1 h2 e) hd) (kp7 b o h1 h2 (kp6 b o h1 h2 e))
        have hll : (row.map vI).length < 16777216 := by rw [List.length_map]; omega
        walk_at "go"
        by_cases hr2 : r2 = 0
        · rw [decide_eq_true hr2]
          walk_at "go"
          refine ⟨p, g, 2, rfl, hP6, by omega, by omega, fun H7 r7 h70 h71 hP7 kp7 => ?_⟩
          have hd7 := kp7 _ _ hdp hdg hd6
          walk_at "go"
          obtain ⟨row', f1, f2, f3, f4, f5, f6, f7⟩ := fin H7 (((i : Int) + r7) % n) (Int.emod_nonneg _ (by omega)) (Int.emod_lt_of_pos _ (by omega)) hP7 kp7
          exact ⟨_, row', rfl, f1, f2, f3, f4, f5, f6, f7⟩
        · rw [decide_eq_false hr2]
          walk_at "go"
          refine ⟨p, g, n, rfl, hP6, by omega, by omega, fun H7 r7 h70 h71 hP7 kp7 => ?_⟩
          have hd7 := kp7 _ _ hdp hdg hd6
          walk_at "go"
          obtain ⟨row', f1, f2, f3, f4, f5, f6, f7⟩ := fin H7 r7 h70 h71 hP7 kp7
          exact ⟨_, row', rfl, f1, f2, f3, f4, f5, f6, f7⟩
      · rintro σ H6 ⟨v9, row, rfl, hrw, hlt, hd6, hc6, hP6, tx6, kp6⟩
        walk_at "go"
        refine w_tupL (SqL.of hd6) fun t ht => ?_
        have hc7 : upd H6 t (.tup (row.map vI)) c = some (.lst xs) := get_ne (ne_of_none hc6 ht) hc6
        have hll : xs.length < 16777216 := by omega
        walk_at "go"
        refine ⟨_, _, _, rows ++ [row], xs ++ [.ref t], rfl, by rw [List.length_append, hrl]; rfl, by rw [List.length_append, hxl]; rfl, fun k r e => ?_, fun r hr => ?_, upd_same, (hP6.new ht).lst hcp hcg, fun b o h1 h2 e => ?_⟩
        · have tx7 : Tx H5 (upd (upd H6 t (.tup (row.map vI))) c (.lst (xs ++ [.ref t]))) := Tx.lst (Tx.new tx6 ht) hc7
          by_cases hk : k < rows.length
          · rw [List.getElem?_append_left hk] at e
            obtain ⟨t', e1, e2⟩ := hrx k r e
            exact ⟨t', by rw [List.getElem?_append_left (by omega)]; exact e1, tx7.sqT e2⟩
          · have hk2 : k = rows.length := by
              have := (List.getElem?_eq_some_iff.mp e).1
              rw [List.length_append, List.length_singleton] at this
              omega
            subst hk2
            rw [List.getElem?_append_right (Nat.le_refl _), Nat.sub_self] at e
            have e' : row = r := Option.some.inj e
            subst e'
            refine ⟨t, by rw [List.getElem?_append_right (by omega), hrl, hxl, Nat.sub_self]; rfl, SqT.of (get_ne (ne_of_none hc6 ht).symm upd_same)⟩
        · rcases List.mem_append.mp hr with hr | hr
          · exact hgood r hr
          · rw [List.mem_singleton.mp hr]
            exact ⟨hrw, hlt⟩
        · exact get_ne (ne_of_none e hc0) (get_ne (ne_of_none (kp6 b o h1 h2 e) ht) (kp6 b o h1 h2 e))
    · rintro σ H5 ⟨v7, v8, v9, rows, xs, rfl, hrl, hxl, hrx, hgood, hcx, hP5, kp5⟩
      rw [Int.toNat_natCast] at hrl hxl
      walk_at "go"
      refine w_tupL (SqL.of hcx) fun t ht => ?_
      have hP6 := hP5.new (o := .tup xs) ht
      walk_at "go"
      have kp6 : Kp p g H (upd H5 t (.tup xs)) := Kp.trans kp5 (Kp.of_same (same_new ht))
      have ht6 : upd H5 t (.tup xs) t = some (.tup xs) := upd_same
      have tx6 : Tx H5 (upd H5 t (.tup xs)) := Tx.new (Tx.refl _) ht
      generalize upd H5 t (.tup xs) = H6 at hP6 kp6 ht6 tx6 ⊢
      refine w_lcR1Q (by omega) (by omega) (fun Dl i H' => ∃ es : List Nat, es.length ≤ i ∧ (∀ e ∈ es, e < n) ∧ H' Dl = some (.lst (es.map vI)) ∧ Pool p g H' ∧ Kp p g H6 H')
        (fun Dl hD => ⟨[], Nat.le_refl _, (fun e he => nomatch he), upd_same, hP6.new hD, Kp.of_same (same_new hD)⟩) ?_ ?_
      · rintro Dl i H7 hD hi ⟨es, hel, hlt, hd7, hP7, kp7⟩
        have hDp := hP6.ne1 hD
        have hDg := hP6.ne2 hD
        walk_at "go"
        refine ⟨rfl, ?_⟩
        walk_at "go"
        refine ⟨p, g, _, rfl, hP7, by omega, by omega, fun H8 r8 h80 h81 hP8 kp8 => ?_⟩
        have hd8 := kp8 _ _ hDp hDg hd7
        walk_at "go"
        refine ite2 (fun e => ?_) (fun e => ?_)
        · walk_at "go"
          refine w_acc hd8 (by rw [List.length_map]; omega) ⟨es ++ [i], by rw [List.length_append, List.length_singleton]; omega, fun x hx => ?_, ?_, hP8.lst hDp hDg, fun b o h1 h2 e => get_ne (ne_of_none e hD) (kp8 b o h1 h2 (kp7 b o h1 h2 e))⟩
          · rcases List.mem_append.mp hx with hx | hx
            · exact hlt x hx
            · rw [List.mem_singleton.mp hx]
              omega
          · rw [upd_same, List.map_append]
            rfl
        · exact ⟨es, by omega, hlt, hd8, hP8, Kp.trans kp7 kp8⟩
      · rintro Dl H7 hD ⟨es, hel, hlt, hd7, hP7, kp7⟩
        rw [Int.toNat_natCast] at hel
        walk_at "go"
        refine w_tupL (SqL.of hd7) fun u hu => ?_
        walk_at "go"
        refine w_new (by simp) fun y hy => ?_
        have tx7 := Kp.tx kp7 hP6
        have tx8 : Tx H6 (upd (upd H7 u (.tup (es.map vI))) y (.tup [vS l, .ref t, .ref u])) := Tx.new (Tx.new tx7 hu) hy
        refine q _ ⟨l, rows, es⟩ y ⟨?_, ?_, hl6, fun r hr => ?_, fun e he => ?_, ?_⟩ rfl ?_ ⟨t, u, SqT.of upd_same, ⟨xs, tx8.sqT (SqT.of ht6), ?_, fun k r e => ?_⟩, SqT.of (get_ne (ne_of_none upd_same hy) upd_same)⟩ ((hP7.new hu).new hy) (Kp.trans (Kp.trans kp6 kp7) (Kp.of_same (Same.new' (same_new hu) hy)))
        · show 0 < rows.length
          omega
        · show rows.length ≤ 400
          omega
        · show r.length = l.length ∧ ∀ x ∈ r, x < rows.length
          rw [hrl]
          exact hgood r hr
        · show e < rows.length
          rw [hrl]
          exact hlt e he
        · show es.length ≤ 400
          omega
        · show (rows.length : Int) ≤ m
          omega
        · show xs.length = rows.length
          omega
        · obtain ⟨t', e1, e2⟩ := hrx k r e
          exact ⟨t', e1, (Tx.trans tx6 tx8).sqT e2⟩
abbrev s__law_reached : Stmt := topS 8
theorem sc__law_reached : FnScope ["lot", "states", "texts", "seen", "turn", "at", "state"] ["lot"] (defScope s__law_reached) := ⟨rfl, rfl, rfl, by decide +kernel, rfl, by decide +kernel, by decide +kernel⟩
theorem kvI_has : ∀ (bs : Bs) (f : Nat → Nat × List Nat → V) (o : Nat), (valV ((bs.zipIdx).map fun p => (Sum.inl (p.1.1 : Int), f p.2 p.1)) (Sum.inl (o : Int) : Key)).isSome = decide (o ∈ bs.map (·.1)) := by
  intro bs f o
  suffices h : ∀ (bs : Bs) (k : Nat), (valV ((bs.zipIdx k).map fun p => (Sum.inl (p.1.1 : Int), f p.2 p.1)) (Sum.inl (o : Int) : Key)).isSome = decide (o ∈ bs.map (·.1)) from h bs 0
  intro bs
  induction bs with
  | nil => intro k; rfl
  | cons a r ih =>
    intro k
    rw [List.zipIdx_cons]
    show (valV ((Sum.inl (a.1 : Int), f k a) :: _) _).isSome = decide (o ∈ a.1 :: r.map (·.1))
    by_cases h : a.1 = o
    · subst h
      rw [valV_pos rfl]
      simp
    · rw [valV_neg (fun z => h (Int.ofNat.inj (Sum.inl.inj z))), ih (k + 1)]
      have h' : ¬ o = a.1 := fun e => h e.symm
      simp [h']
/-- the dict of the states seen -/
abbrev kvN (bs : Bs) : List (Key × V) := (bs.zipIdx).map fun p => (Sum.inl (p.1.1 : Int), vI p.2)
theorem kvN_snoc (bs : Bs) (o : Nat) (t : List Nat) : kvN (bs ++ [(o, t)]) = kvN bs ++ [(Sum.inl (o : Int), vI bs.length)] := by
  unfold kvN
  rw [List.zipIdx_append, List.map_append]
  simp
theorem ok__law_reached (F : At K mg "_law_reached" s__law_reached) (b_len : mg "len" = none) (b_range : mg "range" = none) : Cal P w K mg base 1 "_law_reached" (spReached K) := by
  refine F.cal sc__law_reached (fun vs H Q E h => ?_) (fun _ _ _ _ _ _ us hl => match us, hl with | [_], _ => rfl) (fun f cdv A outer s H vs Q E hr h => ?_)
  · obtain ⟨x, L, rfl, _⟩ := h
    rfl
  · obtain ⟨x, L, rfl, hL, hg, q⟩ := h
    refine ⟨_, (pss_cons (ps_set (i := 1) sc__law_reached.nd rfl (.inl rfl) (pe_lst (pa_cons pe_int pa_nil)))
      (pss_cons (ps_set (i := 2) sc__law_reached.nd rfl (.inl rfl) (pe_lst (pa_cons (pe_strL [] (by decide +kernel)) pa_nil)))
      (pss_cons (ps_set (i := 3) sc__law_reached.nd rfl (.inl rfl) (pe_disp (pps_cons pe_int pe_int pps_nil) rfl rfl (by simp) (by simp)))
      (pss_cons (ps_for PassesOwn.never rfl (pi_range1 (by rfl) b_range (pa_cons (pe_callB call_lenQ (by rfl) b_len PySem.boot_len (pa_cons (pe_ix ix_tup (pv 0) pe_int (fun _ _ => rfl)) pa_nil)) pa_nil)) (pg_name (i := 4) sc__law_reached.nd rfl (.inl rfl))
      (pss_cons (ps_if (pt_cmpR op_eqI (pv 4) (pe_callB call_lenQ (by rfl) b_len PySem.boot_len (pa_cons (pv 1) pa_nil)) (nomark _)) (pss_one ps_break) pss_nil)
      (pss_one (ps_for PassesOwn.never rfl (pi_range1 (by rfl) b_range (pa_cons (pe_callB call_lenS (by rfl) b_len PySem.boot_len (pa_cons (pe_ix ix_tup (pv 0) pe_int (fun _ _ => rfl)) pa_nil)) pa_nil)) (pg_name (i := 5) sc__law_reached.nd rfl (.inl rfl))
      (pss_cons (ps_set (i := 6) sc__law_reached.nd rfl (.inl rfl) (pe_ix ix_tup (pe_ix ix_tup (pe_ix ix_tup (pv 0) pe_int (fun _ _ => rfl)) (pe_ix ix_list (pv 1) (pv 4) (fun _ _ => rfl)) (fun _ _ => rfl)) (pv 5) (fun _ _ => rfl)))
      (pss_one (ps_if (pt_cmp (pc_dnotin hr.units1 (pv 6) (pv 3)) (by rfl)) (pss_cons (ps_asg (pe_callB call_lenQ (by rfl) b_len PySem.boot_len (pa_cons (pv 1) pa_nil)) (pg_sub (pv 3) (pv 6) (set_dict hr.units1)))
      (pss_cons (ps_expr (pe_bm PySem.F.plainAttrs_list PySem.F.slot_list_append PySem.F.type_list_append mt_append (pv 1) (pa_cons (pv 6) pa_nil)))
      (pss_one (ps_expr (pe_bm PySem.F.plainAttrs_list PySem.F.slot_list_append PySem.F.type_list_append mt_append (pv 2) (pa_cons (pe_op op_addS (pe_ix ix_list (pv 2) (pv 4) (fun _ _ => rfl)) (pe_ix ix_S (pe_ix ix_tup (pv 0) pe_int (fun _ _ => rfl)) (pv 5) (fun _ _ => rfl))) pa_nil)))))) pss_nil)))))))
      (pss_one (ps_ret (pe_tup (pa_cons (pv 1) (pa_cons (pv 2) pa_nil))))))))), ?_⟩
    refine st_is (σ' := start _ _) (σ := [some (.ref x), none, none, none, none, none, none]) rfl ?_
    try dsimp only [cxOf, Cx.nox, Cx.wish]
    obtain ⟨b, c, hx, ⟨rs, hb, hbl, hrs⟩, hc⟩ := hL
    have n0 := hg.n0
    have n1 := hg.n1
    have l1 := hg.l1
    walk_at "go"
    refine w_new (by simp) fun a ha => ?_
    walk_at "go"
    refine w_new (by simp) fun e he => ?_
    walk_at "go"
    refine w_disp1 fun d hd => ?_
    have ha1 : upd H a (.lst [V.int 0]) a = some (.lst [V.int 0]) := upd_same
    have hae : a ≠ e := ne_of_none ha1 he
    have ha2 : upd (upd H a (.lst [V.int 0])) e (.lst [vS []]) a = some (.lst [V.int 0]) := get_ne hae ha1
    have he2 : upd (upd H a (.lst [V.int 0])) e (.lst [vS []]) e = some (.lst [vS []]) := upd_same
    have had : a ≠ d := ne_of_none ha2 hd
    have hed : e ≠ d := ne_of_none he2 hd
    have he0 := (none_of_upd he).1
    have hd0 := (none_of_upd (none_of_upd hd).1).1
    have ha0 : H a = none := ha
    walk_at "go"
    refine w_disp1Q (k := Sum.inl 0) rfl upd_same ?_
    rw [upd_upd]
    have sm0 : Same H (upd (upd (upd H a (.lst [V.int 0])) e (.lst [vS []])) d (.dK [(Sum.inl 0, V.int 0)])) := Same.new' (Same.new' (same_new ha) he) hd
    walk_at "go"
    rw [hbl]
    have fin : ∀ (i : Nat) (σ : L2.St) (H' : Hp), i ≤ L.rows.length → (bfs L i).length ≤ i → H' a = some (.lst (((bfs L i).map (·.1)).map vI)) → H' e = some (.lst (((bfs L i).map (·.2)).map vS)) → Same H H' → ∀ t, H' t = none → Q (.ref t) (upd H' t (.tup [.ref a, .ref e])) := by
      intro i σ H' h1 h2 h3 h4 sm t ht
      have hr := reach_eq h2 h1
      rw [List.map_map] at h3 h4
      refine q _ t a e (Same.new' sm ht) (SqT.of upd_same) ?_ ?_
      · rw [hr]
        exact get_ne (ne_of_none h3 ht) h3
      · rw [hr]
        exact get_ne (ne_of_none h4 ht) h4
    refine w_rng1 (by omega) (by omega) (fun i σ H' => ∃ v5 v6 v7, σ = [some (.ref x), some (.ref a), some (.ref e), some (.ref d), v5, v6, v7] ∧ i ≤ L.rows.length ∧ i ≤ (bfs L i).length ∧
        H' d = some (.dK (kvN (bfs L i))) ∧ H' a = some (.lst (((bfs L i).map (·.1)).map vI)) ∧ H' e = some (.lst (((bfs L i).map (·.2)).map vS)) ∧ Same H H')
      ⟨_, _, _, rfl, Nat.zero_le _, Nat.zero_le _, upd_same, get_ne had ha2, get_ne hed he2, sm0⟩ ?_ ?_
    · rintro i σ H1 hi ⟨v5, v6, v7, rfl, hin, hil, hd1, ha1, he1, sm⟩
      have tx := Tx.of_same sm
      have hbl2 := bfs_len hg i
      walk_at "go"
      rw [List.length_map, List.length_map]
      by_cases hlt : i = (bfs L i).length
      · rw [decide_eq_true (by omega)]
        walk_at "go"
        refine w_new (by simp) fun t ht => ?_
        exact fin i [] H1 hin (by omega) ha1 he1 sm t ht
      · rw [decide_eq_false (by omega)]
        walk_at "go"
        obtain ⟨p, hp⟩ : ∃ p, (bfs L i)[i]? = some p := ⟨_, List.getElem?_eq_getElem (by omega)⟩
        have hpl := bfs_lt hg.n0 (fun r hr => (hg.rl r hr).2) i p (List.mem_of_getElem? hp)
        have hpt := bfs_txt i p (List.mem_of_getElem? hp)
        have hnd := bfs_nd L i
        obtain ⟨r, hr⟩ : ∃ r, L.rows[p.1]? = some r := ⟨_, List.getElem?_eq_getElem hpl⟩
        obtain ⟨u, hu1, hu2⟩ := hrs p.1 r hr
        have er := getD_of (d := []) hr
        have hrl := (hg.rl r (List.mem_of_getElem? hr)).1
        refine w_rng1 (by omega) (by omega) (fun j σ H' => ∃ v6 v7, σ = [some (.ref x), some (.ref a), some (.ref e), some (.ref d), some (vI i), v6, v7] ∧
            H' d = some (.dK (kvN (visJ r L.letters p.2 (bfs L i) j))) ∧ H' a = some (.lst (((visJ r L.letters p.2 (bfs L i) j).map (·.1)).map vI)) ∧ H' e = some (.lst (((visJ r L.letters p.2 (bfs L i) j).map (·.2)).map vS)) ∧ Same H H')
          ⟨_, _, rfl, hd1, ha1, he1, sm⟩ ?_ ?_
        · rintro j σ H2 hj ⟨v6, v7, rfl, hd2, ha2, he2, sm2⟩
          have tx2 := Tx.of_same sm2
          have hjl : j < L.letters.length := by omega
          obtain ⟨ch, hch⟩ : ∃ ch, L.letters[j]? = some ch := ⟨_, List.getElem?_eq_getElem hjl⟩
          have hro := getD_at (xs := r) (i := j) (d := 0) (by omega)
          have hpre := visJ_pre r L.letters p.2 (bfs L i) j
          have hnd2 := visJ_nd (row := r) (letters := L.letters) (t := p.2) hnd j
          have hlen : (visJ r L.letters p.2 (bfs L i) j).length ≤ L.rows.length := by
            have := nd_le L.rows.length _ hnd2 fun y hy => by
              obtain ⟨z, hz, rfl⟩ := List.mem_map.mp hy
              refine visJ_all (P := fun s _ => s < L.rows.length) (bfs_lt hg.n0 (fun r hr => (hg.rl r hr).2) i) j (fun k _ => ?_) z hz
              have := mem_getD_row (s := p.1) hg.n0 (fun r hr => (hg.rl r hr).2) k
              rwa [er] at this
            rwa [List.length_map] at this
          have hpj := pre_get hpre hp
          walk_at "go"
          refine w_ixL (SqL.of ha2) (atI_nat (at_map (f := vI) (by rw [List.getElem?_map, hpj]; rfl))) ?_
          walk_at "go"
          refine w_ixT (tx2.sqT hu2) (atI_nat (at_map hro)) ?_
          walk_at "go"
          refine w_dnin (k := Sum.inl ((r.getD j 0 : Nat) : Int)) rfl hd2 ?_
          rw [kvI_has _ fun i _ => vI i]
          have eb : ∀ hm : ¬ r.getD j 0 ∈ (visJ r L.letters p.2 (bfs L i) j).map (·.1), visJ r L.letters p.2 (bfs L i) (j + 1) = visJ r L.letters p.2 (bfs L i) j ++ [(r.getD j 0, p.2 ++ [ch])] := by
            intro hm
            show vis1 _ _ _ = _
            unfold vis1
            rw [if_neg hm, getD_of hch]
          by_cases hm : r.getD j 0 ∈ (visJ r L.letters p.2 (bfs L i) j).map (·.1)
          · rw [decide_eq_true hm]
            walk_at "go"
            have e2 : visJ r L.letters p.2 (bfs L i) (j + 1) = visJ r L.letters p.2 (bfs L i) j := by
              show vis1 _ _ _ = _
              unfold vis1
              rw [if_pos hm]
            exact ⟨_, _, rfl, by rw [e2]; exact hd2, by rw [e2]; exact ha2, by rw [e2]; exact he2, sm2⟩
          · have hno2 : valV (kvN (visJ r L.letters p.2 (bfs L i) j)) (Sum.inl ((r.getD j 0 : Nat) : Int)) = none := by
              have := kvI_has (visJ r L.letters p.2 (bfs L i) j) (fun i _ => vI i) (r.getD j 0)
              rw [decide_eq_false hm] at this
              exact Option.isNone_iff_eq_none.mp (by rw [← Option.not_isSome, this]; rfl)
            rw [decide_eq_false hm]
            walk_at "go"
            refine w_setD (k := Sum.inl ((r.getD j 0 : Nat) : Int)) rfl hd2 (by rw [List.length_map, List.length_zipIdx]; omega) ?_
            rw [putK_new _ hno2, List.length_map, List.length_map]
            have ha4 := get_ne (o := HO.dK (kvN (visJ r L.letters p.2 (bfs L i) j) ++ [(Sum.inl ((r.getD j 0 : Nat) : Int), V.int ((visJ r L.letters p.2 (bfs L i) j).length : Nat))])) had ha2
            have he4 := get_ne (o := HO.dK (kvN (visJ r L.letters p.2 (bfs L i) j) ++ [(Sum.inl ((r.getD j 0 : Nat) : Int), V.int ((visJ r L.letters p.2 (bfs L i) j).length : Nat))])) hed he2
            have hl4 : (((visJ r L.letters p.2 (bfs L i) j).map (·.1)).map vI).length < 16777216 := by rw [List.length_map, List.length_map]; omega
            have hl5 : (((visJ r L.letters p.2 (bfs L i) j).map (·.2)).map vS).length < 16777216 := by rw [List.length_map, List.length_map]; omega
            walk_at "go"
            have he5 := get_ne (o := HO.lst (((visJ r L.letters p.2 (bfs L i) j).map (·.1)).map vI ++ [vI (r.getD j 0)])) hae.symm he4
            refine w_ixL (SqL.of he5) (atI_nat (at_map (f := vS) (by rw [List.getElem?_map, hpj]; rfl))) ?_
            walk_at "go"
            refine ⟨_, _, rfl, ?_, ?_, ?_, Same.mut (Same.mut (Same.mut sm2 hd0) ha0) he0⟩
            · rw [eb hm, kvN_snoc]
              exact get_ne hed.symm (get_ne had.symm upd_same)
            · rw [eb hm, List.map_append, List.map_append]
              exact get_ne hae upd_same
            · rw [eb hm, upd_same, List.map_append, List.map_append]
              rfl
        · rintro σ H2 ⟨v6, v7, rfl, hd2, ha2, he2, sm2⟩
          rw [Int.toNat_natCast] at hd2 ha2 he2
          have ebs : bfs L (i + 1) = visJ r L.letters p.2 (bfs L i) L.letters.length := by
            rw [turn_at hp, er]
          rw [← ebs] at hd2 ha2 he2
          have hle := (bfs_pre L i 1).length_le
          exact ⟨_, _, _, rfl, by omega, by omega, hd2, ha2, he2, sm2⟩
    · rintro σ H1 ⟨v5, v6, v7, rfl, hin, hil, hd1, ha1, he1, sm⟩
      rw [Int.toNat_natCast] at hin hil hd1 ha1 he1
      walk_at "go"
      refine w_new (by simp) fun t ht => ?_
      exact fin L.rows.length [] H1 hin (bfs_len hg _) ha1 he1 sm t ht
abbrev s__law_first : Stmt := topS 9
theorem sc__law_first : FnScope ["lot", "states", "texts", "at"] ["lot"] (defScope s__law_first) := ⟨rfl, rfl, rfl, by decide +kernel, rfl, by decide +kernel, by decide +kernel⟩
theorem ok__law_first (c__law_reached : Cal P w K mg base 1 "_law_reached" (spReached K)) (F : At K mg "_law_first" s__law_first) (b_len : mg "len" = none) (b_range : mg "range" = none) : Cal P w K mg base 2 "_law_first" (spFirst K) := by
  refine F.cal sc__law_first (fun vs H Q E h => ?_) (fun _ _ _ _ _ _ us hl => match us, hl with | [_], _ => rfl) (fun f cdv A outer s H vs Q E hr h => ?_)
  · obtain ⟨x, L, rfl, _⟩ := h
    rfl
  · obtain ⟨x, L, rfl, hL, hg, q⟩ := h
    refine ⟨_, (pss_cons (ps_asg (pe_c c__law_reached hr (by decide) (by rfl) (pa_cons (pv 0) pa_nil)) (pg_tup rfl (pgs_cons (pg_name (i := 1) sc__law_first.nd rfl (.inl rfl)) (pgs_cons (pg_name (i := 2) sc__law_first.nd rfl (.inl rfl)) pgs_nil))))
      (pss_cons (ps_for PassesOwn.never rfl (pi_range1 (by rfl) b_range (pa_cons (pe_callB call_lenQ (by rfl) b_len PySem.boot_len (pa_cons (pv 1) pa_nil)) pa_nil)) (pg_name (i := 3) sc__law_first.nd rfl (.inl rfl))
      (pss_one (ps_if (pt_cmpR op_inI (pe_ix ix_list (pv 1) (pv 3) (fun _ _ => rfl)) (pe_ix ix_tup (pv 0) pe_int (fun _ _ => rfl)) (by rfl)) (pss_one (ps_ret (pe_ix ix_list (pv 2) (pv 3) (fun _ _ => rfl)))) pss_nil)))
      (pss_one (ps_ret pe_non)))), ?_⟩
    refine st_is (σ' := start _ _) (σ := [some (.ref x), none, none, none]) rfl ?_
    try dsimp only [cxOf, Cx.nox, Cx.wish]
    have n0 := hg.n0
    have n1 := hg.n1
    walk_at "go"
    refine ⟨x, L, rfl, hL, hg, fun H1 a e d sm ha he hd => ?_⟩
    have hbl := bfs_len hg L.rows.length
    change (reach L).length ≤ _ at hbl
    have hL1 := hL.tx (Tx.of_same sm)
    obtain ⟨b, c, hx, ⟨rs, hb, hbl, hrs⟩, hc⟩ := hL1
    walk_at "go"
    rw [List.length_map]
    refine w_rng1 (by omega) (by omega) (fun i σ H' => ∃ v3, σ = [some (.ref x), some (.ref e), some (.ref d), v3] ∧ (∀ j, j < i → ∀ p, (reach L)[j]? = some p → decide (p.1 ∈ L.ends) = false) ∧ H' = H1)
      ⟨_, rfl, fun j hj => absurd hj (Nat.not_lt_zero _), rfl⟩ ?_ ?_
    · rintro i σ H2 hi ⟨v3, rfl, hno, rfl⟩
      obtain ⟨p, hp⟩ : ∃ p, (reach L)[i]? = some p := ⟨_, List.getElem?_eq_getElem (by omega)⟩
      walk_at "go"
      refine w_ixL (SqL.of he) (atI_nat (v := vI p.1) (by rw [List.getElem?_map, hp]; rfl)) ?_
      walk_at "go"
      refine w_inIT hc ?_
      by_cases hend : p.1 ∈ L.ends
      · rw [decide_eq_true hend]
        walk_at "go"
        refine w_ixL (SqL.of hd) (atI_nat (v := vS p.2) (by rw [List.getElem?_map, hp]; rfl)) ?_
        have hf : firstOf L = some p.2 := by
          unfold firstOf
          rw [find_at hno hp (decide_eq_true hend)]
          rfl
        have := q H2 sm
        rw [hf] at this
        exact this
      · rw [decide_eq_false hend]
        walk_at "go"
        refine ⟨_, rfl, fun j hj y hy => ?_, rfl⟩
        by_cases hji : j = i
        · subst hji
          rw [hp] at hy
          rw [← Option.some.inj hy]
          exact decide_eq_false hend
        · exact hno j (by omega) y hy
    · rintro σ H2 ⟨v3, rfl, hno, rfl⟩
      rw [Int.toNat_natCast] at hno
      walk_at "go"
      have hf : firstOf L = none := by
        unfold firstOf
        rw [find_no, Option.map_none]
        intro j y hy
        exact hno j (List.getElem?_eq_some_iff.mp hy).1 y hy
      have := q H2 sm
      rw [hf] at this
      exact this
abbrev s__law_count : Stmt := topS 10
theorem sc__law_count : FnScope ["lot", "length", "many", "turn", "further", "state", "to", "end"] ["lot", "length"] (defScope s__law_count) := ⟨rfl, rfl, rfl, by decide +kernel, rfl, by decide +kernel, by decide +kernel⟩
theorem ok__law_count (F : At K mg "_law_count" s__law_count) (b_len : mg "len" = none) (b_range : mg "range" = none) (b_sum : mg "sum" = none) : Cal P w K mg base 1 "_law_count" (spCount K) := by
  refine F.cal sc__law_count (fun vs H Q E h => ?_) (fun _ _ _ _ _ _ us hl => match us, hl with | [_, _], _ => rfl) (fun f cdv A outer s H vs Q E hr h => ?_)
  · obtain ⟨x, L, m, rfl, _⟩ := h
    rfl
  · obtain ⟨x, L, m, rfl, hL, hg, hm, q⟩ := h
    refine ⟨_, (pss_cons (ps_set (i := 2) sc__law_count.nd rfl (.inr rfl) (pe_op op_rep (pe_lst (pa_cons pe_int pa_nil)) (pe_callB call_lenQ (by rfl) b_len PySem.boot_len (pa_cons (pe_ix ix_tup (pv 0) pe_int (fun _ _ => rfl)) pa_nil))))
      (pss_cons (ps_asg pe_int (pg_sub (pv 2) pe_int set_list))
      (pss_cons (ps_for PassesOwn.never rfl (pi_range1 (by rfl) b_range (pa_cons (pv 1) pa_nil)) (pg_name (i := 3) sc__law_count.nd rfl (.inl rfl))
      (pss_cons (ps_set (i := 4) sc__law_count.nd rfl (.inl rfl) (pe_op op_rep (pe_lst (pa_cons pe_int pa_nil)) (pe_callB call_lenQ (by rfl) b_len PySem.boot_len (pa_cons (pe_ix ix_tup (pv 0) pe_int (fun _ _ => rfl)) pa_nil))))
      (pss_cons (ps_for PassesOwn.never rfl (pi_range1 (by rfl) b_range (pa_cons (pe_callB call_lenQ (by rfl) b_len PySem.boot_len (pa_cons (pe_ix ix_tup (pv 0) pe_int (fun _ _ => rfl)) pa_nil)) pa_nil)) (pg_name (i := 5) sc__law_count.nd rfl (.inl rfl))
      (pss_one (ps_if (pt_cmpR op_gt (pe_ix ix_list (pv 2) (pv 5) (fun _ _ => rfl)) pe_int (nomark _)) (pss_one (ps_for PassesOwn.never rfl (pi_tup (pe_ix ix_tup (pe_ix ix_tup (pv 0) pe_int (fun _ _ => rfl)) (pv 5) (fun _ _ => rfl))) (pg_name (i := 6) sc__law_count.nd rfl (.inl rfl))
      (pss_one (ps_asg (pe_op op_add (pe_ix ix_list (pv 4) (pv 6) (fun _ _ => rfl)) (pe_ix ix_list (pv 2) (pv 5) (fun _ _ => rfl))) (pg_sub (pv 4) (pv 6) set_list))))) pss_nil)))
      (pss_one (ps_set (i := 2) sc__law_count.nd rfl (.inr rfl) (pv 4))))))
      (pss_one (ps_ret (pe_callB (cr_sum rfl) (by rfl) b_sum (by decide +kernel) (pa_cons (pe_lc (own := [("end", 7)]) (g := gName 7) (tt := tYes)  rfl sc__law_count.nd (pi_tup (pe_ix ix_tup (pv 0) pe_int (fun _ _ => rfl))) (blkOk_by (N := ["lot", "length", "many", "turn", "further", "state", "to", "end"]) (sc := defScope s__law_count) (by decide +kernel)) (fun _ _ _ _ _ => (pg_name (i := 7) sc__law_count.nd rfl (.inl rfl))) (fun _ _ _ _ _ => pts_nil) (fun _ _ _ _ _ => (pe_ix (r := rIxL K) ix_list (pv 2) (pv 7) (fun _ _ => rfl)))) pa_nil))))))), ?_⟩
    refine st_is (σ' := start _ _) (σ := [some (.ref x), some (vI m), none, none, none, none, none, none]) rfl ?_
    try dsimp only [cxOf, Cx.nox, Cx.wish]
    obtain ⟨b, c, hx, ⟨rs, hb, hbl, hrs⟩, hc⟩ := hL
    have n0 := hg.n0
    have n1 := hg.n1
    walk_at "go"
    refine w_new (by simp) fun u hu => ?_
    walk_at "go"
    rw [hbl]
    refine w_rep1 upd_same (by omega) fun e he => ?_
    have he0 := (none_of_upd he).1
    walk_at "go"
    rw [rep_map V.int (0 : Int)]
    refine w_setL (j := 0) upd_same (ixN_n (by rw [List.length_map, List.length_replicate]; exact n0)) ?_
    rw [upd_upd, show V.int 1 = V.int (1 : Int) from rfl, ← List.map_set]
    have sm0 : Same H (upd (upd H u (.lst [V.int 0])) e (.lst ((cnt L 0).map V.int))) := Same.new' (same_new hu) he
    walk_at "go"
    refine w_rng1 (by omega) (by omega) (fun i σ H' => ∃ e v6 v7 v8 v9, σ = [some (.ref x), some (vI m), some (.ref e), v6, v7, v8, v9, none] ∧ H' e = some (.lst ((cnt L i).map V.int)) ∧ H e = none ∧ Same H H')
      ⟨e, _, _, _, _, rfl, upd_same, he0, sm0⟩ ?_ ?_
    · rintro t σ H1 ht ⟨e, v6, v7, v8, v9, rfl, hce, he0, sm⟩
      have tx := Tx.of_same sm
      walk_at "go"
      refine w_new (by simp) fun u hu => ?_
      walk_at "go"
      rw [hbl]
      refine w_rep1 upd_same (by omega) fun d hd => ?_
      have hd1 := (none_of_upd hd).1
      have hd0 := Same.fresh sm hd1
      rw [rep_map V.int (0 : Int)]
      have hed : e ≠ d := ne_of_none hce hd1
      have hce2 : upd (upd H1 u (.lst [V.int 0])) d (.lst ((List.replicate L.rows.length (0 : Int)).map V.int)) e = some (.lst ((cnt L t).map V.int)) := get_ne hed (get_ne (ne_of_none hce hu) hce)
      have sm1 : Same H (upd (upd H1 u (.lst [V.int 0])) d (.lst ((List.replicate L.rows.length (0 : Int)).map V.int))) := Same.new' (Same.new' sm hu) hd
      walk_at "go"
      rw [hbl]
      refine w_rng1 (by omega) (by omega) (fun s σ H' => ∃ v8 v9, σ = [some (.ref x), some (vI m), some (.ref e), some (vI t), some (.ref d), v8, v9, none] ∧ H' d = some (.lst ((stp L (cnt L t) s).map V.int)) ∧ H' e = some (.lst ((cnt L t).map V.int)) ∧ Same H H')
        ⟨_, _, rfl, upd_same, hce2, sm1⟩ ?_ ?_
      · rintro s σ H2 hs ⟨v8, v9, rfl, hd2, he2, sm2⟩
        have hs : s < L.rows.length := by omega
        have hcs := getD_at (xs := cnt L t) (i := s) (d := 0) (by rw [cnt_len]; exact hs)
        have hnn := cnt_nn L t s
        have hcm := atI_nat (at_map (f := V.int) hcs)
        have tx2 := Tx.of_same sm2
        walk_at "go"
        refine w_ixL (SqL.of he2) hcm ?_
        walk_at "go"
        by_cases hc0 : (cnt L t).getD s 0 = 0
        · rw [decide_eq_false (by omega)]
          walk_at "go"
          refine ⟨_, _, rfl, ?_, he2, sm2⟩
          rw [hd2, stp.eq_2, if_pos hc0]
        · rw [decide_eq_true (by omega)]
          walk_at "go"
          obtain ⟨r, hr⟩ : ∃ r, L.rows[s]? = some r := ⟨_, List.getElem?_eq_getElem hs⟩
          obtain ⟨p, hp1, hp2⟩ := hrs s r hr
          have er := getD_of (d := []) hr
          refine w_ixT (tx2.sqT hb) (atI_nat hp1) ?_
          walk_at "go"
          refine w_tupQ (tx2.sqT hp2) (fun j σ H' => ∃ v10, σ = [some (.ref x), some (vI m), some (.ref e), some (vI t), some (.ref d), some (vI s), v10, none] ∧ H' d = some (.lst ((rowAdd (stp L (cnt L t) s) (r.take j) ((cnt L t).getD s 0)).map V.int)) ∧ H' e = some (.lst ((cnt L t).map V.int)) ∧ Same H H')
            ⟨_, rfl, hd2, he2, sm2⟩ (fun j σ H' _ ⟨_, _, _, _, h⟩ => (Tx.of_same h).sqT hp2) ?_ ?_
          · rintro j y σ H4 hy ⟨v10, rfl, hd4, he4, sm4⟩
            obtain ⟨o, ho, rfl⟩ := map_at hy
            have hon := (hg.rl r (List.mem_of_getElem? hr)).2 o (List.mem_of_getElem? ho)
            have hol : o < (rowAdd (stp L (cnt L t) s) (r.take j) ((cnt L t).getD s 0)).length := by rw [rowAdd_len, stp_len]; exact hon
            walk_at "go"
            refine w_ixL (SqL.of hd4) (atI_nat (at_map (getD_at (d := 0) hol))) ?_
            walk_at "go"
            refine w_ixL (SqL.of he4) hcm ?_
            walk_at "go"
            refine w_setL (j := o) hd4 (ixN_n (by rw [List.length_map]; exact hol)) ?_
            refine ⟨_, rfl, ?_, get_ne hed he4, Same.mut sm4 hd0⟩
            rw [upd_same, ← List.map_set, List.take_succ_eq_append_getElem (List.getElem?_eq_some_iff.mp ho).1, (List.getElem?_eq_some_iff.mp ho).2]
            unfold rowAdd
            rw [List.foldl_append]
            rfl
          · rintro σ H4 ⟨v10, rfl, hd4, he4, sm4⟩
            refine ⟨_, _, rfl, ?_, he4, sm4⟩
            rw [List.length_map, List.take_length] at hd4
            rw [hd4, stp.eq_2, if_neg hc0, er]
      · rintro σ H2 ⟨v8, v9, rfl, hd2, he2, sm2⟩
        rw [Int.toNat_natCast] at hd2
        walk_at "go"
        exact ⟨_, _, _, _, _, rfl, hd2, hd0, sm2⟩
    · rintro σ H1 ⟨e, v6, v7, v8, v9, rfl, hce, he0, sm⟩
      rw [Int.toNat_natCast] at hce
      have tx := Tx.of_same sm
      walk_at "go"
      refine w_lcTQ (tx.sqT hc) (fun Dl i H' => H' Dl = some (.lst (((L.ends.take i).map fun e => (cnt L m).getD e 0).map V.int)) ∧ H' e = some (.lst ((cnt L m).map V.int)) ∧ Same H1 H')
        (fun Dl hD => ⟨upd_same, get_ne (ne_of_none hce hD) hce, same_new hD⟩) (fun Dl i H' _ ⟨_, _, h⟩ => (tx.trans (Tx.of_same h)).sqT hc) ?_ ?_
      · rintro Dl i y H2 hD hy ⟨hl2, he2, sm2⟩
        obtain ⟨o, ho, rfl⟩ := map_at hy
        have hon := hg.el o (List.mem_of_getElem? ho)
        have hil := (List.getElem?_eq_some_iff.mp ho).1
        have he1 := hg.e1
        walk_at "go"
        refine ⟨rfl, ?_⟩
        walk_at "go"
        refine w_ixL (SqL.of he2) (atI_nat (at_map (getD_at (d := 0) (by rw [cnt_len]; exact hon)))) ?_
        refine w_acc hl2 (by rw [List.length_map, List.length_map, List.length_take]; omega) ⟨?_, get_ne (ne_of_none hce hD) he2, Same.mut sm2 hD⟩
        rw [upd_same, List.take_succ_eq_append_getElem hil, List.map_append, List.map_append, (List.getElem?_eq_some_iff.mp ho).2]
        rfl
      · rintro Dl H2 hD ⟨hl2, he2, sm2⟩
        rw [List.length_map, List.take_length] at hl2
        walk_at "go"
        refine w_sumL (SqL.of hl2) ?_
        exact q _ (sm.trans sm2)
abbrev s__law_first_right : Stmt := topS 11
theorem sc__law_first_right : FnScope ["lot", "asked", "due", "told"] ["lot", "asked"] (defScope s__law_first_right) := ⟨rfl, rfl, rfl, by decide +kernel, rfl, by decide +kernel, by decide +kernel⟩
theorem ok__law_first_right (c__law_first : Cal P w K mg base 2 "_law_first" (spFirst K)) (c_least_text : Cal P w K mg base 1 "least_text" (spFirst K)) (F : At K mg "_law_first_right" s__law_first_right) (b_isinstance : mg "isinstance" = none) (b_str : mg "str" = none) : Cal P w K mg base 3 "_law_first_right" (spFirstR K) := by
  refine F.cal sc__law_first_right (fun vs H Q E h => ?_) (fun _ _ _ _ _ _ us hl => match us, hl with | [_, _], _ => rfl) (fun f cdv A outer s H vs Q E hr h => ?_)
  · obtain ⟨x, q, L, a, b, c, d, rfl, _⟩ := h
    rfl
  · obtain ⟨x, qa, L, a, b, c, d, rfl, hL, hg, hqa, q⟩ := h
    refine ⟨_, (pss_cons (ps_set (i := 2) sc__law_first_right.nd rfl (.inl rfl) (pe_c c__law_first hr (by decide) (by rfl) (pa_cons (pv 0) pa_nil)))
      (pss_cons (ps_set (i := 3) sc__law_first_right.nd rfl (.inl rfl) (pe_c c_least_text hr (by decide) (by rfl) (pa_cons (pv 0) pa_nil)))
      (pss_cons (ps_if (pt_cmpR op_isN2 (pv 2) pe_non (nomark _)) (pss_cons (ps_asg (pe_op op_add (pe_ix ix_list (pv 1) pe_int (fun _ _ => rfl)) pe_int) (pg_sub (pv 1) pe_int set_list))
      (pss_one (ps_ret (pe_cmpR op_isN2 (pv 3) pe_non (nomark _))))) pss_nil)
      (pss_cons (ps_asg (pe_op op_add (pe_ix ix_list (pv 1) pe_int (fun _ _ => rfl)) pe_int) (pg_sub (pv 1) pe_int set_list))
      (pss_one (ps_ret (pe_and (pe_callB call_isi (by rfl) b_isinstance (by decide +kernel) (pa_cons (pv 3) (pa_cons (pe_bltn (v := .ty "str") (u := .type "str") (by rfl) b_str (by decide +kernel) rfl) pa_nil))) (pe_one (pe_cmpR op_eq (pv 3) (pv 2) (nomark _)))))))))), ?_⟩
    refine st_is (σ' := start _ _) (σ := [some (.ref x), some (.ref qa), none, none]) rfl ?_
    try dsimp only [cxOf, Cx.nox, Cx.wish]
    walk_at "go"
    refine ⟨x, L, rfl, hL, hg, fun H1 sm1 => ?_⟩
    have hL1 := hL.tx (Tx.of_same sm1)
    walk_at "go"
    refine ⟨x, L, rfl, hL1, hg, fun H2 sm2 => ?_⟩
    have hq2 := sm2 _ _ (sm1 _ _ hqa)
    walk_at "go"
    have but : ∀ o, But qa H (upd H2 qa o) := fun o b u hb e => get_ne hb (sm2 _ _ (sm1 _ _ e))
    cases hf : firstOf L with
    | none =>
      rw [hf] at q
      show ite (decide (V.non = V.non) = true) _ _
      rw [decide_eq_true rfl]
      walk_at "go"
      refine q _ (but _) ?_
      rw [upd_same]
      simp [b2]
    | some l =>
      rw [hf] at q
      show ite (decide (vS l = V.non) = true) _ _
      rw [decide_eq_false (fun e => nomatch e)]
      walk_at "go"
      refine w_isi (rep_ty (Rep.str (l := l))) ks_str ?_
      walk_at "go"
      rw [decide_eq_true rfl]
      refine q _ (but _) ?_
      rw [upd_same]
      simp [b2]
abbrev s__law_count_right : Stmt := topS 12
theorem sc__law_count_right : FnScope ["lot", "length", "asked", "due", "told"] ["lot", "length", "asked"] (defScope s__law_count_right) := ⟨rfl, rfl, rfl, by decide +kernel, rfl, by decide +kernel, by decide +kernel⟩
theorem ok__law_count_right (c__law_count : Cal P w K mg base 1 "_law_count" (spCount K)) (c_count_texts : Cal P w K mg base 1 "count_texts" (spCount K)) (F : At K mg "_law_count_right" s__law_count_right) (b_isinstance : mg "isinstance" = none) (b_int : mg "int" = none) (b_bool : mg "bool" = none) : Cal P w K mg base 2 "_law_count_right" (spCountR K) := by
  refine F.cal sc__law_count_right (fun vs H Q E h => ?_) (fun _ _ _ _ _ _ us hl => match us, hl with | [_, _, _], _ => rfl) (fun f cdv A outer s H vs Q E hr h => ?_)
  · obtain ⟨x, q, L, m, a, b, c, d, rfl, _⟩ := h
    rfl
  · obtain ⟨x, qa, L, m, a, b, c, d, rfl, hL, hg, hm, hqa, q⟩ := h
    refine ⟨_, (pss_cons (ps_set (i := 3) sc__law_count_right.nd rfl (.inl rfl) (pe_c c__law_count hr (by decide) (by rfl) (pa_cons (pv 0) (pa_cons (pv 1) pa_nil))))
      (pss_cons (ps_set (i := 4) sc__law_count_right.nd rfl (.inl rfl) (pe_c c_count_texts hr (by decide) (by rfl) (pa_cons (pv 0) (pa_cons (pv 1) pa_nil))))
      (pss_cons (ps_if (pt_cmpR op_eqI (pv 3) pe_int (nomark _)) (pss_one (ps_asg (pe_op op_add (pe_ix ix_list (pv 2) pe_int (fun _ _ => rfl)) pe_int) (pg_sub (pv 2) pe_int set_list))) (pss_one (ps_asg (pe_op op_add (pe_ix ix_list (pv 2) pe_int (fun _ _ => rfl)) pe_int) (pg_sub (pv 2) pe_int set_list))))
      (pss_one (ps_ret (pe_and (pe_callB call_isi (by rfl) b_isinstance (by decide +kernel) (pa_cons (pv 4) (pa_cons (pe_bltn (v := .ty "int") (u := .type "int") (by rfl) b_int (by decide +kernel) rfl) pa_nil))) (pe_and (pe_not (pe_callB call_isi (by rfl) b_isinstance (by decide +kernel) (pa_cons (pv 4) (pa_cons (pe_bltn (v := .ty "bool") (u := .type "bool") (by rfl) b_bool (by decide +kernel) rfl) pa_nil)))) (pe_one (pe_cmpR op_eqI (pv 4) (pv 3) (nomark _)))))))))), ?_⟩
    refine st_is (σ' := start _ _) (σ := [some (.ref x), some (vI m), some (.ref qa), none, none]) rfl ?_
    try dsimp only [cxOf, Cx.nox, Cx.wish]
    walk_at "go"
    refine ⟨x, L, m, rfl, hL, hg, hm, fun H1 sm1 => ?_⟩
    have hL1 := hL.tx (Tx.of_same sm1)
    walk_at "go"
    refine ⟨x, L, m, rfl, hL1, hg, hm, fun H2 sm2 => ?_⟩
    have hq2 := sm2 _ _ (sm1 _ _ hqa)
    walk_at "go"
    have but : ∀ o, But qa H (upd H2 qa o) := fun o b u hb e => get_ne hb (sm2 _ _ (sm1 _ _ e))
    by_cases hc : countOf L m = 0
    · rw [decide_eq_true hc] at q ⊢
      walk_at "go"
      refine w_isi (rep_ty (Rep.int (i := countOf L m))) ki_int ?_
      walk_at "go"
      refine w_isi (rep_ty (Rep.int (i := countOf L m))) ki_bool ?_
      walk_at "go"
      rw [decide_eq_true rfl]
      refine q _ (but _) ?_
      rw [upd_same]
      simp [b2]
    · rw [decide_eq_false hc] at q ⊢
      walk_at "go"
      refine w_isi (rep_ty (Rep.int (i := countOf L m))) ki_int ?_
      walk_at "go"
      refine w_isi (rep_ty (Rep.int (i := countOf L m))) ki_bool ?_
      walk_at "go"
      rw [decide_eq_true rfl]
      refine q _ (but _) ?_
      rw [upd_same]
      simp [b2]
abbrev s__law_chain : Stmt := topS 13
theorem sc__law_chain : FnScope ["pool", "letters", "many", "down", "twice", "number", "rows", "at", "on", "beside", "row", "letter"] ["pool", "letters", "many"] (defScope s__law_chain) := ⟨rfl, rfl, rfl, by decide +kernel, rfl, by decide +kernel, by decide +kernel⟩
/-- the number of the i-th state of the chain -/
def num (d : Bool) (m i : Nat) : Nat := if i = 0 then 0 else if d = true then m - i else i
theorem num_lt {d : Bool} {m i : Nat} (h : i < m) : num d m i < m := by
  unfold num
  repeat' split
  all_goals omega
theorem num_num {d : Bool} {m i : Nat} (h : i < m) : num d m (num d m i) = i := by
  unfold num
  by_cases h0 : i = 0
  · simp [h0]
  · rw [if_neg h0]
    cases d
    · simp [h0]
    · simp only [if_true]
      rw [if_neg (by omega)]
      omega
structure RowOk (d : Bool) (m n k : Nat) (r : List Nat) : Prop where
  len : r.length = n
  all : ∀ x ∈ r, ∃ j, x = num d m j ∧ j < m ∧ j ≤ k + 1
  on : k + 1 < m → num d m (k + 1) ∈ r
theorem chain_of {d : Bool} {m : Nat} {l : List Nat} {rowf : Nat → List Nat} (m0 : 0 < m) (m1 : m ≤ 300) (l6 : l.length ≤ 6) (h : ∀ k, k < m → RowOk d m l.length k (rowf k)) :
    Good ⟨l, (List.range m).map fun s => rowf (num d m s), [num d m (m - 1)]⟩ ∧ Chain ⟨l, (List.range m).map fun s => rowf (num d m s), [num d m (m - 1)]⟩ m (num d m) := by
  have hrow : ∀ i, i < m → ((List.range m).map fun s => rowf (num d m s)).getD (num d m i) [] = rowf i := fun i hi => by
    refine getD_of ?_
    rw [List.getElem?_map, List.getElem?_range (num_lt hi)]
    show some (rowf (num d m (num d m i))) = _
    rw [num_num hi]
  refine ⟨⟨?_, ?_, l6, fun r hr => ?_, fun e he => ?_, by show 1 ≤ 400; omega⟩, ⟨m0, ?_, fun i j hi hj e => ?_, rfl, fun i hi => num_lt hi, fun i hi => ?_, fun i hi => ?_, rfl⟩⟩
  · show 0 < ((List.range m).map fun s => rowf (num d m s)).length
    rw [List.length_map, List.length_range]
    exact m0
  · show ((List.range m).map fun s => rowf (num d m s)).length ≤ 400
    rw [List.length_map, List.length_range]
    omega
  · show r.length = l.length ∧ ∀ x ∈ r, x < ((List.range m).map fun s => rowf (num d m s)).length
    rw [List.length_map, List.length_range]
    obtain ⟨s, hs, rfl⟩ := List.mem_map.mp (show r ∈ (List.range m).map fun s => rowf (num d m s) from hr)
    have ok := h _ (num_lt (d := d) (List.mem_range.mp hs))
    refine ⟨ok.len, fun x hx => ?_⟩
    obtain ⟨j, rfl, hj, _⟩ := ok.all x hx
    exact num_lt hj
  · show e < ((List.range m).map fun s => rowf (num d m s)).length
    rw [List.length_map, List.length_range, List.mem_singleton.mp he]
    exact num_lt (by omega)
  · show ((List.range m).map fun s => rowf (num d m s)).length = m
    rw [List.length_map, List.length_range]
  · have := congrArg (num d m) e
    rwa [num_num hi, num_num hj] at this
  · show (((List.range m).map fun s => rowf (num d m s)).getD (num d m i) []).length = l.length ∧ _
    rw [hrow i hi]
    exact ⟨(h i hi).len, (h i hi).all⟩
  · show num d m (i + 1) ∈ ((List.range m).map fun s => rowf (num d m s)).getD (num d m i) []
    rw [hrow i (by omega)]
    exact (h i (by omega)).on hi
theorem ok__law_chain (c__law_draw : Cal P w K mg base 1 "_law_draw" spDraw) (F : At K mg "_law_chain" s__law_chain) (b_len : mg "len" = none) (b_range : mg "range" = none) (b_tuple : mg "tuple" = none) : Cal P w K mg base 2 "_law_chain" (spChain K) := by
  refine F.cal sc__law_chain (fun vs H Q E h => ?_) (fun _ _ _ _ _ _ us hl => match us, hl with | [_, _, _], _ => rfl) (fun f cdv A outer s H vs Q E hr h => ?_)
  · obtain ⟨p, g, l, m, rfl, _⟩ := h
    rfl
  · obtain ⟨p, g, l, m, rfl, hP, hl0, hl6, m1, m2, q⟩ := h
    refine ⟨_, (pss_cons (ps_set (i := 3) sc__law_chain.nd rfl (.inr rfl) (pe_cmpR op_eqI (pe_c c__law_draw hr (by decide) (by rfl) (pa_cons (pv 0) (pa_cons pe_int pa_nil))) pe_int (nomark _)))
      (pss_cons (ps_set (i := 4) sc__law_chain.nd rfl (.inl rfl) (pe_cmpR op_eqI (pe_c c__law_draw hr (by decide) (by rfl) (pa_cons (pv 0) (pa_cons pe_int pa_nil))) pe_int (nomark _)))
      (pss_cons (ps_set (i := 5) sc__law_chain.nd rfl (.inl rfl) (pe_op op_cat (pe_lst (pa_cons pe_int pa_nil)) (pe_lc (own := [("at", 7)]) (g := gName 7) (tt := tYes)  rfl sc__law_chain.nd (pi_range2 (by rfl) b_range (pa_cons pe_int (pa_cons (pv 2) pa_nil))) (blkOk_by (N := ["pool", "letters", "many", "down", "twice", "number", "rows", "at", "on", "beside", "row", "letter"]) (sc := defScope s__law_chain) (by decide +kernel)) (fun _ _ _ _ _ => (pg_name (i := 7) sc__law_chain.nd rfl (.inl rfl))) (fun _ _ _ _ _ => pts_nil) (fun _ _ _ _ _ => (pe_ifExp (pt_val (pv 3)) (pe_op op_sub (pv 2) (pv 7)) (pv 7))))))
      (pss_cons (ps_setLc (i := 6) (own := [("at", 7)]) (g := gName 7) (tt := tYes) rfl sc__law_chain.nd rfl rfl (sw_true rfl rfl rfl (by decide +kernel)) (pi_range1 (by rfl) b_range (pa_cons (pv 2) pa_nil)) (blkOk_by (N := ["pool", "letters", "many", "down", "twice", "number", "rows", "at", "on", "beside", "row", "letter"]) (sc := defScope s__law_chain) (by decide +kernel)) (fun _ _ _ _ _ => (pg_name (i := 7) sc__law_chain.nd rfl (.inl rfl))) (fun _ _ _ _ _ => pts_nil) (fun _ _ _ _ _ => (pe_tup pa_nil)))
      (pss_cons (ps_for PassesOwn.never rfl (pi_range1 (by rfl) b_range (pa_cons (pv 2) pa_nil)) (pg_name (i := 7) sc__law_chain.nd rfl (.inl rfl))
      (pss_cons (ps_set (i := 8) sc__law_chain.nd rfl (.inl rfl) (pe_c c__law_draw hr (by decide) (by rfl) (pa_cons (pv 0) (pa_cons (pe_callB call_lenS (by rfl) b_len PySem.boot_len (pa_cons (pv 1) pa_nil)) pa_nil))))
      (pss_cut (ps_set (i := 9) sc__law_chain.nd rfl (.inl rfl) (pe_ifExp (pt_val (pv 4)) (pe_c c__law_draw hr (by decide) (by rfl) (pa_cons (pv 0) (pa_cons (pe_callB call_lenS (by rfl) b_len PySem.boot_len (pa_cons (pv 1) pa_nil)) pa_nil))) (pv 8)))
      (pss_cons (ps_set (i := 10) sc__law_chain.nd rfl (.inl rfl) (pe_lst pa_nil))
      (pss_cons (ps_for PassesOwn.never rfl (pi_range1 (by rfl) b_range (pa_cons (pe_callB call_lenS (by rfl) b_len PySem.boot_len (pa_cons (pv 1) pa_nil)) pa_nil)) (pg_name (i := 11) sc__law_chain.nd rfl (.inl rfl))
      (pss_one (ps_if (PW.pt (pw_and (pt_cmpR op_lt (pe_op op_add (pv 7) pe_int) (pv 2) (nomark _)) (pw_and1 (PW.pt (pw_or (pt_cmpR op_eqI (pv 11) (pv 8) (nomark _)) (pw_or1 (pt_cmpR op_eqI (pv 11) (pv 9) (nomark _)))))))) (pss_one (ps_expr (pe_bm PySem.F.plainAttrs_list PySem.F.slot_list_append PySem.F.type_list_append mt_append (pv 10) (pa_cons (pe_ix ix_list (pv 5) (pe_op op_add (pv 7) pe_int) (fun _ _ => rfl)) pa_nil)))) (pss_one (ps_expr (pe_bm PySem.F.plainAttrs_list PySem.F.slot_list_append PySem.F.type_list_append mt_append (pv 10) (pa_cons (pe_ix ix_list (pv 5) (pe_c c__law_draw hr (by decide) (by rfl) (pa_cons (pv 0) (pa_cons (pe_op op_add (pv 7) pe_int) pa_nil))) (fun _ _ => rfl)) pa_nil)))))))
      (pss_one (ps_asg (pe_callTy call_tupL (by rfl) b_tuple (by decide +kernel) (pa_cons (pv 10) pa_nil)) (pg_sub (pv 6) (pe_ix ix_list (pv 5) (pv 7) (fun _ _ => rfl)) set_list))))))))
      (pss_one (ps_ret (pe_tup (pa_cons (pv 1) (pa_cons (pe_callTy call_tupL (by rfl) b_tuple (by decide +kernel) (pa_cons (pv 6) pa_nil)) (pa_cons (pe_tup (pa_cons (pe_ix ix_list (pv 5) (pe_op op_sub (pv 2) pe_int) (fun _ _ => rfl)) pa_nil)) pa_nil))))))))))), ?_⟩
    refine st_is (σ' := start _ _) (σ := [some (.ref p), some (vS l), some (vI m), none, none, none, none, none, none, none, none, none]) rfl ?_
    try dsimp only [cxOf, Cx.nox, Cx.wish]
    have hlp : 0 < l.length := List.length_pos_iff.mpr hl0
    walk_at "go"
    refine ⟨p, g, 2, rfl, hP, by omega, by omega, fun H1 r1 h10 h11 hP1 kp1 => ?_⟩
    walk_at "go"
    refine ⟨p, g, 3, rfl, hP1, by omega, by omega, fun H2 r2 h20 h21 hP2 kp2 => ?_⟩
    walk_at "go"
    refine w_new (by simp) fun c hc => ?_
    generalize decide (r1 = 1) = d
    generalize decide (r2 = 1) = tw
    have hc1 : upd H2 c (.lst [V.int 0]) c = some (.lst [V.int 0]) := upd_same
    have hP3 : Pool p g (upd H2 c (.lst [V.int 0])) := hP2.new hc
    have kp3 : Kp p g H (upd H2 c (.lst [V.int 0])) := (kp1.trans kp2).trans (Kp.of_same (same_new hc))
    generalize upd H2 c (.lst [V.int 0]) = H3 at hc1 hP3 kp3 ⊢
    walk_at "go"
    refine w_lcR2Q (by omega) (by omega) (fun Dl i H' => H' Dl = some (.lst (((List.range i).map fun k => num d m (k + 1)).map vI)) ∧ Same H3 H') (fun Dl hD => ⟨upd_same, same_new hD⟩) ?_ ?_
    · rintro Dl i H' hD hi ⟨hd', sm'⟩
      walk_at "go"
      refine ⟨rfl, ?_⟩
      have fin : ∀ v : V, v = vI (num d m (i + 1)) → accQ Dl v H' fun H' => H' Dl = some (.lst (((List.range (i + 1)).map fun k => num d m (k + 1)).map vI)) ∧ Same H3 H' := by
        rintro _ rfl
        refine w_acc hd' (by rw [List.length_map, List.length_map, List.length_range]; omega) ⟨?_, Same.mut sm' hD⟩
        rw [upd_same, List.range_succ, List.map_append, List.map_append]
        rfl
      walk_at "go"
      cases d
      · walk_at "go"
        refine fin _ ?_
        show V.int (1 + (i : Int)) = V.int (((i + 1 : Nat) : Int))
        rw [show (1 + (i : Int)) = ((i + 1 : Nat) : Int) by omega]
      · walk_at "go"
        refine fin _ ?_
        show V.int ((m : Int) - (1 + (i : Int))) = V.int (((m - (i + 1) : Nat) : Int))
        rw [show ((m : Int) - (1 + (i : Int))) = ((m - (i + 1) : Nat) : Int) by omega]
    rintro y H4 hy ⟨hy4, sm4⟩
    have hc4 := sm4 _ _ hc1
    have em : ((m : Int) - 1).toNat = m - 1 := by omega
    rw [em] at hy4
    refine w_catL hc4 hy4 (by rw [List.length_map, List.length_map, List.length_range]; show 1 + (m - 1) ≤ _; omega) fun N hN => ?_
    have eN : [V.int 0] ++ ((List.range (m - 1)).map fun k => num d m (k + 1)).map vI = ((List.range m).map (num d m)).map vI := by
      obtain ⟨k, rfl⟩ : ∃ k, m = k + 1 := ⟨m - 1, by omega⟩
      rw [show k + 1 - 1 = k from rfl, List.range_succ_eq_map, List.map_cons, List.map_cons, List.map_map, List.map_map, List.map_map]
      rfl
    rw [eN]
    have kp4 : Kp p g H H4 := kp3.trans (Kp.of_same sm4)
    have hP4 := hP3.same sm4
    have hP5 := hP4.new (o := .lst (((List.range m).map (num d m)).map vI)) hN
    have kp5 := kp4.trans (Kp.of_same (same_new (o := .lst (((List.range m).map (num d m)).map vI)) hN))
    have hNp := hP4.ne1 hN
    have hNg := hP4.ne2 hN
    have hN5 : upd H4 N (.lst (((List.range m).map (num d m)).map vI)) N = some (.lst (((List.range m).map (num d m)).map vI)) := upd_same
    generalize upd H4 N (.lst (((List.range m).map (num d m)).map vI)) = H5 at hP5 kp5 hN5 ⊢
    walk_at "go"
    refine w_lcR1Q (by omega) (by omega) (fun Dl i H' => ∃ xs : List V, xs.length = i ∧ H' Dl = some (.lst xs) ∧ Same H5 H') (fun Dl hD => ⟨[], rfl, upd_same, same_new hD⟩) ?_ ?_
    · rintro Dl i H' hD hi ⟨xs, hxl, hd', sm'⟩
      walk_at "go"
      refine ⟨rfl, ?_⟩
      walk_at "go"
      refine w_new (by simp) fun t ht => ?_
      refine w_acc (get_ne (ne_of_none hd' ht) hd') (by omega) ⟨xs ++ [.ref t], by rw [List.length_append, hxl]; rfl, upd_same, Same.mut (Same.new' sm' ht) hD⟩
    rintro R H6 hR ⟨xs0, hxl0, hR6, sm6⟩
    rw [Int.toNat_natCast] at hxl0
    have hN6 := sm6 _ _ hN5
    have hNR : N ≠ R := ne_of_none hN5 hR
    have hRp := hP5.ne1 hR
    have hRg := hP5.ne2 hR
    have hR0 : H R = none := by
      cases e : H R with
      | none => rfl
      | some o => rw [kp5 R o hRp hRg e] at hR; cases hR
    walk_at "go"
    refine w_rng1 (by omega) (by omega) (fun i σ H' => ∃ v7 v8 v9 v10 v11, ∃ (rowf : Nat → List Nat) (xs : List V), σ = [some (.ref p), some (vS l), some (vI m), some (.bl d), some (.bl tw), some (.ref N), some (.ref R), v7, v8, v9, v10, v11] ∧
        xs.length = m ∧ (∀ k, k < i → RowOk d m l.length k (rowf k)) ∧ (∀ k, k < i → ∃ t, xs[num d m k]? = some (.ref t) ∧ SqT K H' t ((rowf k).map vI)) ∧ H' N = some (.lst (((List.range m).map (num d m)).map vI)) ∧ H' R = some (.lst xs) ∧ Pool p g H' ∧ Kp p g H H')
      ⟨_, _, _, _, _, fun _ => [], xs0, rfl, hxl0, fun k hk => absurd hk (Nat.not_lt_zero _), fun k hk => absurd hk (Nat.not_lt_zero _), hN6, hR6, hP5.same sm6, kp5.trans (Kp.of_same sm6)⟩ ?_ ?_
    · rintro i σ H7 hi ⟨v7, v8, v9, v10, v11, rowf, xs, rfl, hxl, hok, hrx, hN7, hR7, hP7, kp7⟩
      have him : i < m := by omega
      walk_at "go"
      refine ⟨p, g, _, rfl, hP7, by omega, by omega, fun H8 on o0 o1 hP8 kp8 => ?_⟩
      walk_at "go"
      refine w_cut (fun σ H' => ∃ b9 : Int, σ = [some (.ref p), some (vS l), some (vI m), some (.bl d), some (.bl tw), some (.ref N), some (.ref R), some (vI i), some (.int on), some (.int b9), v10, v11] ∧ Pool p g H' ∧ Kp p g H7 H') ?_ ?_
      · walk_at "go"
        cases tw
        · walk_at "go"
          exact ⟨_, rfl, hP8, kp8⟩
        · walk_at "go"
          refine ⟨p, g, _, rfl, hP8, by omega, by omega, fun H9 b9 b0 b1 hP9 kp9 => ?_⟩
          walk_at "go"
          exact ⟨_, rfl, hP9, kp8.trans kp9⟩
      rintro σ H9 ⟨b9, rfl, hP9, kp9⟩
      walk_at "go"
      refine w_new (by simp) fun r hr => ?_
      have hrp := hP9.ne1 hr
      have hrg := hP9.ne2 hr
      have hN9 := kp9 _ _ hNp hNg hN7
      have hR9 := kp9 _ _ hRp hRg hR7
      have hNr : N ≠ r := ne_of_none hN9 hr
      have hRr : R ≠ r := ne_of_none hR9 hr
      have tx9 := kp9.tx hP7
      walk_at "go"
      refine w_rng1 (by omega) (by omega) (fun j σ H' => ∃ v11, ∃ row : List Nat, σ = [some (.ref p), some (vS l), some (vI m), some (.bl d), some (.bl tw), some (.ref N), some (.ref R), some (vI i), some (.int on), some (.int b9), some (.ref r), v11] ∧
          row.length = j ∧ (∀ x ∈ row, ∃ j, x = num d m j ∧ j < m ∧ j ≤ i + 1) ∧ (i + 1 < m → on < j → num d m (i + 1) ∈ row) ∧ H' r = some (.lst (row.map vI)) ∧ Pool p g H' ∧ Tx H7 H' ∧ (∀ b o, b ≠ p → b ≠ g → H9 b = some o → H' b = some o))
        ⟨_, [], rfl, rfl, (fun x hx => nomatch hx), fun _ h => by omega, upd_same, hP9.new hr, Tx.new tx9 hr, fun b o h1 h2 e => get_ne (ne_of_none e hr) e⟩ ?_ ?_
      · rintro j σ H10 hj ⟨v11, row, rfl, hrl, hall, hon, hr10, hP10, tx10, kp10⟩
        have hN10 := kp10 _ _ hNp hNg hN9
        have hll : (row.map vI).length < 16777216 := by rw [List.length_map]; omega
        have atN : ∀ k, k < m → atI (((List.range m).map (num d m)).map vI) (k : Int) = some (vI (num d m k)) := fun k hk => atI_nat (by
          rw [List.getElem?_map, List.getElem?_map, List.getElem?_range hk]
          rfl)
        have fin : ∀ (H' : Hp) (k : Nat), k < m → k ≤ i + 1 → (i + 1 < m → on < (j : Int) + 1 → on < (j : Int) ∨ k = i + 1) → Pool p g H' → Kp p g H10 H' → ∃ row' : List Nat,
            row'.length = j + 1 ∧ (∀ x ∈ row', ∃ j, x = num d m j ∧ j < m ∧ j ≤ i + 1) ∧ (i + 1 < m → on < ((j + 1 : Nat) : Int) → num d m (i + 1) ∈ row') ∧ upd H' r (.lst (row.map vI ++ [vI (num d m k)])) r = some (.lst (row'.map vI)) ∧ Pool p g (upd H' r (.lst (row.map vI ++ [vI (num d m k)]))) ∧ Tx H7 (upd H' r (.lst (row.map vI ++ [vI (num d m k)]))) ∧ (∀ b o, b ≠ p → b ≠ g → H9 b = some o → upd H' r (.lst (row.map vI ++ [vI (num d m k)])) b = some o) := by
          intro H' k hk hki hc hP' kp'
          have hr' := kp' _ _ hrp hrg hr10
          refine ⟨row ++ [num d m k], by rw [List.length_append, hrl]; rfl, fun x hx => ?_, fun h1 h2 => ?_, ?_, hP'.lst hrp hrg, Tx.lst (tx10.trans (kp'.tx hP10)) hr', fun b o h1 h2 e => get_ne (ne_of_none e hr) (kp' b o h1 h2 (kp10 b o h1 h2 e))⟩
          · rcases List.mem_append.mp hx with hx | hx
            · exact hall x hx
            · exact ⟨k, List.mem_singleton.mp hx, hk, hki⟩
          · rcases hc h1 (by omega) with h3 | h3
            · exact List.mem_append_left _ (hon h1 h3)
            · rw [h3]
              simp
          · rw [upd_same, List.map_append]
            rfl
        have other : (i + 1 < m → on ≠ j) → ∀ k : Nat, k ≤ i → (i + 1 < m → on < (j : Int) + 1 → on < (j : Int) ∨ k = i + 1) := fun h k hk h1 h2 => .inl (by have := h h1; omega)
        walk_at "go"
        by_cases h1 : i + 1 < m
        · rw [decide_eq_true (by omega)]
          walk_at "go"
          have fork : ((j : Int) = on ∨ (j : Int) = b9) ∨ ((j : Int) ≠ on ∧ (j : Int) ≠ b9) := by omega
          have h1' := atN (i + 1) h1
          rw [show ((i + 1 : Nat) : Int) = (i : Int) + 1 from rfl] at h1'
          rcases fork with h2 | ⟨h2, h3⟩
          · obtain ⟨row', f1, f2, f3, f4, f5, f6, f7⟩ := fin H10 (i + 1) h1 (Nat.le_refl _) (fun _ _ => .inr rfl) hP10 (Kp.refl _ _ _)
            by_cases h3 : (j : Int) = on
            · rw [decide_eq_true h3]
              walk_at "go"
              refine w_ixL (SqL.of hN10) h1' ?_
              walk_at "go"
              exact ⟨_, row', rfl, f1, f2, f3, f4, f5, f6, f7⟩
            · rw [decide_eq_false h3]
              walk_at "go"
              rw [decide_eq_true (by omega)]
              walk_at "go"
              refine w_ixL (SqL.of hN10) h1' ?_
              walk_at "go"
              exact ⟨_, row', rfl, f1, f2, f3, f4, f5, f6, f7⟩
          · rw [decide_eq_false h2]
            walk_at "go"
            rw [decide_eq_false h3]
            walk_at "go"
            refine ⟨p, g, _, rfl, hP10, by omega, by omega, fun H11 rr r0 r1 hP11 kp11 => ?_⟩
            obtain ⟨k, rfl⟩ := Int.eq_ofNat_of_zero_le r0
            have hN11 := kp11 _ _ hNp hNg hN10
            have hr11 := kp11 _ _ hrp hrg hr10
            walk_at "go"
            refine w_ixL (SqL.of hN11) (atN k (by omega)) ?_
            walk_at "go"
            obtain ⟨row', f1, f2, f3, f4, f5, f6, f7⟩ := fin H11 k (by omega) (by omega) (other (fun _ => by omega) k (by omega)) hP11 kp11
            exact ⟨_, row', rfl, f1, f2, f3, f4, f5, f6, f7⟩
        · rw [decide_eq_false (by omega)]
          walk_at "go"
          refine ⟨p, g, _, rfl, hP10, by omega, by omega, fun H11 rr r0 r1 hP11 kp11 => ?_⟩
          obtain ⟨k, rfl⟩ := Int.eq_ofNat_of_zero_le r0
          have hN11 := kp11 _ _ hNp hNg hN10
          have hr11 := kp11 _ _ hrp hrg hr10
          walk_at "go"
          refine w_ixL (SqL.of hN11) (atN k (by omega)) ?_
          walk_at "go"
          obtain ⟨row', f1, f2, f3, f4, f5, f6, f7⟩ := fin H11 k (by omega) (by omega) (other (fun h => absurd h h1) k (by omega)) hP11 kp11
          exact ⟨_, row', rfl, f1, f2, f3, f4, f5, f6, f7⟩
      · rintro σ H10 ⟨v11, row, rfl, hrl, hall, hon, hr10, hP10, tx10, kp10⟩
        rw [Int.toNat_natCast] at hrl hon
        have hN10 := kp10 _ _ hNp hNg hN9
        have hR10 := kp10 _ _ hRp hRg hR9
        have atN : atI (((List.range m).map (num d m)).map vI) (i : Int) = some (vI (num d m i)) := atI_nat (by
          rw [List.getElem?_map, List.getElem?_map, List.getElem?_range him]
          rfl)
        walk_at "go"
        refine w_tupL (SqL.of hr10) fun t ht => ?_
        have hN11 : upd H10 t (.tup (row.map vI)) N = some (.lst (((List.range m).map (num d m)).map vI)) := get_ne (ne_of_none hN10 ht) hN10
        have hR11 : upd H10 t (.tup (row.map vI)) R = some (.lst xs) := get_ne (ne_of_none hR10 ht) hR10
        walk_at "go"
        refine w_ixL (SqL.of hN11) atN ?_
        walk_at "go"
        refine w_setL (j := num d m i) hR11 (ixN_n (by rw [hxl]; exact num_lt him)) ?_
        have ht11 : upd (upd H10 t (.tup (row.map vI))) R (.lst (xs.set (num d m i) (.ref t))) t = some (.tup (row.map vI)) := get_ne (ne_of_none hR10 ht).symm upd_same
        have tx11 : Tx H7 (upd (upd H10 t (.tup (row.map vI))) R (.lst (xs.set (num d m i) (.ref t)))) := Tx.lst (Tx.new tx10 ht) hR11
        refine ⟨_, _, _, _, _, fun k => if k = i then row else rowf k, _, rfl, by rw [List.length_set]; exact hxl, fun k hk => ?_, fun k hk => ?_, get_ne hNR hN11, upd_same, (hP10.new ht).lst hRp hRg, fun b o h1 h2 e => ?_⟩
        · show RowOk d m l.length k (if k = i then row else rowf k)
          by_cases hki : k = i
          · rw [if_pos hki, hki]
            exact ⟨hrl, hall, fun h => hon h (by omega)⟩
          · rw [if_neg hki]
            exact hok k (by omega)
        · show ∃ t', _ ∧ SqT K _ t' ((if k = i then row else rowf k).map vI)
          by_cases hki : k = i
          · rw [if_pos hki, hki]
            exact ⟨t, by rw [List.getElem?_set_self (by rw [hxl]; exact num_lt him)], SqT.of ht11⟩
          · rw [if_neg hki]
            obtain ⟨t', e1, e2⟩ := hrx k (by omega)
            refine ⟨t', ?_, tx11.sqT e2⟩
            rw [List.getElem?_set_ne]
            · exact e1
            · intro e
              have := congrArg (num d m) e
              rw [num_num him, num_num (by omega)] at this
              exact hki this.symm
        · exact get_ne (ne_of_none e hR0) (get_ne (ne_of_none (kp10 b o h1 h2 (kp9 b o h1 h2 (kp7 b o h1 h2 e))) ht) (kp10 b o h1 h2 (kp9 b o h1 h2 (kp7 b o h1 h2 e))))
    · rintro σ H7 ⟨v7, v8, v9, v10, v11, rowf, xs, rfl, hxl, hok, hrx, hN7, hR7, hP7, kp7⟩
      rw [Int.toNat_natCast] at hok hrx
      obtain ⟨hg, hch⟩ := chain_of (l := l) m1 m2 hl6 hok
      walk_at "go"
      refine w_tupL (SqL.of hR7) fun t ht => ?_
      have hN8 : upd H7 t (.tup xs) N = some (.lst (((List.range m).map (num d m)).map vI)) := get_ne (ne_of_none hN7 ht) hN7
      walk_at "go"
      refine w_ixL (i := (m : Int) - 1) (SqL.of hN8) (v := vI (num d m (m - 1))) ?_ ?_
      · rw [show ((m : Int) - 1) = ((m - 1 : Nat) : Int) by omega]
        refine atI_nat ?_
        rw [List.getElem?_map, List.getElem?_map, List.getElem?_range (by omega)]
        rfl
      walk_at "go"
      refine w_new (by simp) fun u hu => ?_
      walk_at "go"
      refine w_new (by simp) fun x hx => ?_
      have ht8 : upd (upd H7 t (.tup xs)) u (.tup [vI (num d m (m - 1))]) t = some (.tup xs) := get_ne (ne_of_none upd_same hu) upd_same
      have tx8 : Tx H7 (upd (upd (upd H7 t (.tup xs)) u (.tup [vI (num d m (m - 1))])) x (.tup [vS l, .ref t, .ref u])) := Tx.new (Tx.new (Tx.new (Tx.refl _) ht) hu) hx
      refine q _ _ x _ hg hch ⟨t, u, SqT.of upd_same, ⟨xs, SqT.of (get_ne (ne_of_none ht8 hx) ht8), ?_, fun k r e => ?_⟩, SqT.of (get_ne (ne_of_none upd_same hx) upd_same)⟩ (((hP7.new ht).new hu).new hx) (kp7.trans (Kp.of_same (Same.new' (Same.new' (same_new ht) hu) hx)))
      · show xs.length = ((List.range m).map fun s => rowf (num d m s)).length
        rw [List.length_map, List.length_range]
        exact hxl
      · have e' : ((List.range m).map fun s => rowf (num d m s))[k]? = some r := e
        have hk : k < m := by
          have := (List.getElem?_eq_some_iff.mp e').1
          rwa [List.length_map, List.length_range] at this
        rw [List.getElem?_map, List.getElem?_range hk] at e'
        have e2 : rowf (num d m k) = r := Option.some.inj e'
        subst e2
        obtain ⟨t', e1, e2⟩ := hrx _ (num_lt (d := d) hk)
        rw [num_num hk] at e1
        exact ⟨t', e1, tx8.sqT e2⟩
abbrev s__law_lots_right : Stmt := topS 14
theorem sc__law_lots_right : FnScope ["pool", "letters", "asked", "lot", "states", "never", "others", "every", "last", "some", "length", "letter", "at"] ["pool", "letters", "asked"] (defScope s__law_lots_right) := ⟨rfl, rfl, rfl, by decide +kernel, rfl, by decide +kernel, by decide +kernel⟩
def sFirst (z : Bool) (ls : List Lot) : Int := (ls.map fun L => b2 (decide ((firstOf L).isNone = z))).sum
def sCount (z : Bool) (ls : List Lot) (m : Nat) : Int := (ls.map fun L => b2 (decide (decide (countOf L m = 0) = z))).sum
theorem sum_snoc (xs : List Int) (x : Int) : (xs ++ [x]).sum = xs.sum + x := by
  rw [List.sum_append, List.sum_cons, List.sum_nil, Int.add_zero]
theorem But.tx {q : Addr} {H H' : Hp} {xs : List V} (h : But q H H') (e : H q = some (.lst xs)) : Tx H H' := fun b o t eb => by
  refine h b o ?_ eb
  refine ne_of eb e ?_
  rcases t with ⟨_, rfl⟩ | ⟨_, _, rfl⟩ <;> intro z <;> cases z
theorem But.pool {q p g : Addr} {H H' : Hp} (h : But q H H') (h1 : q ≠ p) (h2 : q ≠ g) (hp : Pool p g H) : Pool p g H' := by
  obtain ⟨ne, x, ns, e1, e2, e3⟩ := hp
  exact ⟨ne, x, ns, h _ _ h1.symm e1, h _ _ h2.symm e2, e3⟩
theorem But.trans {q : Addr} {H H' H2 : Hp} (h : But q H H') (h2 : But q H' H2) : But q H H2 := fun b o n e => h2 b o n (h b o n e)
theorem first_take {z : Bool} {ls : List Lot} {i : Nat} {L : Lot} (h : ls[i]? = some L) : sFirst z (ls.take (i + 1)) = sFirst z (ls.take i) + b2 (decide ((firstOf L).isNone = z)) := by
  unfold sFirst
  rw [List.take_succ_eq_append_getElem (List.getElem?_eq_some_iff.mp h).1, (List.getElem?_eq_some_iff.mp h).2, List.map_append, List.map_cons, List.map_nil, sum_snoc]
theorem count_take {z : Bool} {m : Nat} {ls : List Lot} {i : Nat} {L : Lot} (h : ls[i]? = some L) : sCount z (ls.take (i + 1)) m = sCount z (ls.take i) m + b2 (decide (decide (countOf L m = 0) = z)) := by
  unfold sCount
  rw [List.take_succ_eq_append_getElem (List.getElem?_eq_some_iff.mp h).1, (List.getElem?_eq_some_iff.mp h).2, List.map_append, List.map_cons, List.map_nil, sum_snoc]
theorem five {L1 L2 L3 L4 L5 L6 : Lot} (h2 : firstOf L2 = none) (h4 : (firstOf L4).isSome = true) (h5 : (firstOf L5).isSome = true) (h6 : firstOf L6 = none) : 2 ≤ sFirst true [L1, L2, L3, L4, L5, L6] ∧ 2 ≤ sFirst false [L1, L2, L3, L4, L5, L6] := by
  have e4 : (firstOf L4).isNone = false := by rw [← Option.not_isSome, h4]; rfl
  have e5 : (firstOf L5).isNone = false := by rw [← Option.not_isSome, h5]; rfl
  unfold sFirst
  simp only [List.map_cons, List.map_nil, List.sum_cons, List.sum_nil]
  rw [h2, h6, e4, e5]
  have b1 := b2_nn (decide ((firstOf L1).isNone = true))
  have b3 := b2_nn (decide ((firstOf L3).isNone = true))
  have b1' := b2_nn (decide ((firstOf L1).isNone = false))
  have b3' := b2_nn (decide ((firstOf L3).isNone = false))
  have c1 : b2 (decide ((none : Option (List Nat)).isNone = true)) = 1 := rfl
  have c2 : b2 (decide ((none : Option (List Nat)).isNone = false)) = 0 := rfl
  have c3 : b2 (decide (false = true)) = 0 := rfl
  have c4 : b2 (decide (false = false)) = 1 := rfl
  omega
theorem four {L1 L2 L3 L4 L5 : Lot} {m : Nat} (h2 : countOf L2 m = 0) (h4 : countOf L4 m ≠ 0) : 1 ≤ sCount true [L1, L2, L3, L4, L5] m ∧ 1 ≤ sCount false [L1, L2, L3, L4, L5] m := by
  unfold sCount
  simp only [List.map_cons, List.map_nil, List.sum_cons, List.sum_nil]
  rw [decide_eq_true h2, decide_eq_false h4]
  have b1 := b2_nn (decide (decide (countOf L1 m = 0) = true))
  have b3 := b2_nn (decide (decide (countOf L3 m = 0) = true))
  have b5 := b2_nn (decide (decide (countOf L5 m = 0) = true))
  have b1' := b2_nn (decide (decide (countOf L1 m = 0) = false))
  have b3' := b2_nn (decide (decide (countOf L3 m = 0) = false))
  have b5' := b2_nn (decide (decide (countOf L5 m = 0) = false))
  have c1 : b2 (decide (true = true)) = 1 := rfl
  have c2 : b2 (decide (true = false)) = 0 := rfl
  have c3 : b2 (decide (false = true)) = 0 := rfl
  have c4 : b2 (decide (false = false)) = 1 := rfl
  omega
theorem good_ends {l : List Nat} {L : Lot} {es : List Nat} (g : Good L) (hl : L.letters = l) (h1 : ∀ e ∈ es, e < L.rows.length) (h2 : es.length ≤ 400) : Good ⟨l, L.rows, es⟩ := by
  subst hl
  exact ⟨g.n0, g.n1, g.l1, g.rl, h1, h2⟩
theorem ok__law_lots_right (c__law_lot : Cal P w K mg base 2 "_law_lot" (spLot K)) (c__law_reached : Cal P w K mg base 1 "_law_reached" (spReached K)) (c__law_first_right : Cal P w K mg base 3 "_law_first_right" (spFirstR K))
    (c__law_draw : Cal P w K mg base 1 "_law_draw" spDraw) (c__law_count_right : Cal P w K mg base 2 "_law_count_right" (spCountR K)) (F : At K mg "_law_lots_right" s__law_lots_right) (b_len : mg "len" = none) (b_range : mg "range" = none) (b_tuple : mg "tuple" = none) : Cal P w K mg base 4 "_law_lots_right" (spLots K) := by
  refine F.cal sc__law_lots_right (fun vs H Q E h => ?_) (fun _ _ _ _ _ _ us hl => match us, hl with | [_, _, _], _ => rfl) (fun f cdv A outer s H vs Q E hr h => ?_)
  · obtain ⟨p, g, qa, l, rfl, _⟩ := h
    rfl
  · obtain ⟨p, g, qa, l, rfl, hP, hqp, hqg, hl0, hl6, hqa, q⟩ := h
    refine ⟨_, (pss_cons (ps_set (i := 3) sc__law_lots_right.nd rfl (.inr rfl) (pe_c c__law_lot hr (by decide) (by rfl) (pa_cons (pv 0) (pa_cons (pv 1) (pa_cons pe_int pa_nil)))))
      (pss_cons (ps_set (i := 4) sc__law_lots_right.nd rfl (.inl rfl) (pe_ix ix_tup (pe_c c__law_reached hr (by decide) (by rfl) (pa_cons (pv 3) pa_nil)) pe_int (fun _ _ => rfl)))
      (pss_cons (ps_set (i := 5) sc__law_lots_right.nd rfl (.inl rfl) (pe_tup (pa_cons (pv 1) (pa_cons (pe_op op_catA (pe_ix ix_tup (pv 3) pe_int (fun _ _ => rfl)) (pe_tup (pa_cons (pe_callTy call_tupL (by rfl) b_tuple (by decide +kernel) (pa_cons (pe_lc (own := [("letter", 11)]) (g := gName 11) (tt := tYes)  rfl sc__law_lots_right.nd (pi_str (pv 1)) (blkOk_by (N := ["pool", "letters", "asked", "lot", "states", "never", "others", "every", "last", "some", "length", "letter", "at"]) (sc := defScope s__law_lots_right) (by decide +kernel)) (fun _ _ _ _ _ => (pg_name (i := 11) sc__law_lots_right.nd rfl (.inl rfl))) (fun _ _ _ _ _ => pts_nil) (fun _ _ _ _ _ => pe_int)) pa_nil)) pa_nil))) (pa_cons (pe_callTy call_tupL (by rfl) b_tuple (by decide +kernel) (pa_cons (pe_lst (pa_cons (pe_callB call_lenQ (by rfl) b_len PySem.boot_len (pa_cons (pe_ix ix_tup (pv 3) pe_int (fun _ _ => rfl)) pa_nil)) pa_nil)) pa_nil)) pa_nil)))))
      (pss_cons (ps_set (i := 6) sc__law_lots_right.nd rfl (.inl rfl) (pe_tup (pa_cons (pv 1) (pa_cons (pe_ix ix_tup (pv 3) pe_int (fun _ _ => rfl)) (pa_cons (pe_callTy call_tupL (by rfl) b_tuple (by decide +kernel) (pa_cons (pe_lc (own := [("at", 12)]) (g := gName 12)   rfl sc__law_lots_right.nd (pi_range1 (by rfl) b_range (pa_cons (pe_callB call_lenQ (by rfl) b_len PySem.boot_len (pa_cons (pe_ix ix_tup (pv 3) pe_int (fun _ _ => rfl)) pa_nil)) pa_nil)) (blkOk_by (N := ["pool", "letters", "asked", "lot", "states", "never", "others", "every", "last", "some", "length", "letter", "at"]) (sc := defScope s__law_lots_right) (by decide +kernel)) (fun _ _ _ _ _ => (pg_name (i := 12) sc__law_lots_right.nd rfl (.inl rfl))) (fun _ _ _ _ _ => (pts_one (pt_cmpR (r := zNinI K) op_ninI (pv 12) (pe_ix (r := rIxT K) ix_tup (pv 3) pe_int (fun _ _ => rfl)) (by rfl)))) (fun _ _ _ _ _ => (pv 12))) pa_nil)) pa_nil)))))
      (pss_cons (ps_set (i := 7) sc__law_lots_right.nd rfl (.inl rfl) (pe_tup (pa_cons (pv 1) (pa_cons (pe_ix ix_tup (pv 3) pe_int (fun _ _ => rfl)) (pa_cons (pe_tupRg rfl (by rfl) b_tuple (prg_1 (by rfl) b_range (pe_callB call_lenQ (by rfl) b_len PySem.boot_len (pa_cons (pe_ix ix_tup (pv 3) pe_int (fun _ _ => rfl)) pa_nil)))) pa_nil)))))
      (pss_cons (ps_set (i := 8) sc__law_lots_right.nd rfl (.inl rfl) (pe_tup (pa_cons (pv 1) (pa_cons (pe_ix ix_tup (pv 3) pe_int (fun _ _ => rfl)) (pa_cons (pe_tup (pa_cons (pe_ix ix_list (pv 4) (pe_un un_neg pe_int) (fun _ _ => rfl)) pa_nil)) pa_nil)))))
      (pss_cons (ps_for PassesOwn.never rfl (pi_list (pe_lst (pa_cons (pv 3) (pa_cons (pv 5) (pa_cons (pv 6) (pa_cons (pv 7) (pa_cons (pv 8) (pa_cons (pe_tup (pa_cons (pv 1) (pa_cons (pe_ix ix_tup (pv 3) pe_int (fun _ _ => rfl)) (pa_cons (pe_tup pa_nil) pa_nil)))) pa_nil)))))))) (pg_name (i := 9) sc__law_lots_right.nd rfl (.inl rfl))
      (pss_one (ps_if (pt_not (pt_val (pe_c c__law_first_right hr (by decide) (by rfl) (pa_cons (pv 9) (pa_cons (pv 2) pa_nil))))) (pss_one (ps_ret pe_bl)) pss_nil)))
      (pss_cons (ps_set (i := 10) sc__law_lots_right.nd rfl (.inl rfl) (pe_ix ix_list (pe_lst (pa_cons pe_int (pa_cons pe_int (pa_cons pe_int (pa_cons pe_int (pa_cons pe_int (pa_cons pe_int (pa_cons pe_int (pa_cons pe_int (pa_cons pe_int pa_nil)))))))))) (pe_c c__law_draw hr (by decide) (by rfl) (pa_cons (pv 0) (pa_cons pe_int pa_nil))) (fun _ _ => rfl)))
      (pss_cons (ps_for PassesOwn.never rfl (pi_list (pe_lst (pa_cons (pv 3) (pa_cons (pv 5) (pa_cons (pv 6) (pa_cons (pv 7) (pa_cons (pv 8) pa_nil))))))) (pg_name (i := 9) sc__law_lots_right.nd rfl (.inl rfl))
      (pss_one (ps_if (pt_not (pt_val (pe_c c__law_count_right hr (by decide) (by rfl) (pa_cons (pv 9) (pa_cons (pv 10) (pa_cons (pv 2) pa_nil)))))) (pss_one (ps_ret pe_bl)) pss_nil)))
      (pss_one (ps_ret (pe_and (pe_c c__law_count_right hr (by decide) (by rfl) (pa_cons (pv 3) (pa_cons (pe_c c__law_draw hr (by decide) (by rfl) (pa_cons (pv 0) (pa_cons pe_int pa_nil))) (pa_cons (pv 2) pa_nil)))) (pe_one (pe_c c__law_count_right hr (by decide) (by rfl) (pa_cons (pv 8) (pa_cons pe_int (pa_cons (pv 2) pa_nil))))))))))))))))), ?_⟩
    refine st_is (σ' := start _ _) (σ := [some (.ref p), some (vS l), some (.ref qa), none, none, none, none, none, none, none, none, none, none]) rfl ?_
    try dsimp only [cxOf, Cx.nox, Cx.wish]
    walk_at "go"
    refine ⟨p, g, l, 8, rfl, hP, hl0, hl6, by omega, by omega, fun H1 L x hg hLl hLm hL hP1 kp1 => ?_⟩
    have hq1 := kp1 _ _ hqp hqg hqa
    walk_at "go"
    refine ⟨x, L, rfl, hL, hg, fun H2 t ks ts sm2 ht hks hts => ?_⟩
    have hL2 := hL.tx (Tx.of_same sm2)
    have hP2 := hP1.same sm2
    have hq2 := sm2 _ _ hq1
    have hL2' := hL2
    obtain ⟨b, c, hx, hrs, hc⟩ := hL2
    obtain ⟨rs, hb, hbl, hrs'⟩ := id hrs
    rw [hLl] at hx
    have n0 := hg.n0
    have n1 := hg.n1
    -- never
    walk_at "go"
    refine w_lcSQ (fun Dl i H' => H' Dl = some (.lst ((List.replicate i 0).map vI)) ∧ Same H2 H') (fun Dl hD => ⟨upd_same, same_new hD⟩) ?_ ?_
    · rintro Dl i ch H' hD hi ⟨hd', sm'⟩
      have hil := (List.getElem?_eq_some_iff.mp hi).1
      walk_at "go"
      refine ⟨rfl, ?_⟩
      walk_at "go"
      refine w_acc hd' (by rw [List.length_map, List.length_replicate]; omega) ⟨?_, Same.mut sm' hD⟩
      rw [upd_same, List.replicate_succ', List.map_append]
      rfl
    rintro z0 H3 hz0 ⟨hz3, sm3⟩
    walk_at "go"
    refine w_tupL (SqL.of hz3) fun z hz => ?_
    walk_at "go"
    refine w_new (by simp) fun y hy => ?_
    have sm4 : Same H2 (upd (upd H3 z (.tup ((List.replicate l.length 0).map vI))) y (.tup [.ref z])) := Same.new' (Same.new' sm3 hz) hy
    have hz4 : SqT K (upd (upd H3 z (.tup ((List.replicate l.length 0).map vI))) y (.tup [.ref z])) z ((List.replicate l.length 0).map vI) := SqT.of (get_ne (ne_of_none upd_same hy) upd_same)
    have hy4 : SqT K (upd (upd H3 z (.tup ((List.replicate l.length 0).map vI))) y (.tup [.ref z])) y [.ref z] := SqT.of upd_same
    generalize upd (upd H3 z (.tup ((List.replicate l.length 0).map vI))) y (.tup [.ref z]) = H4 at sm4 hz4 hy4 ⊢
    refine w_catA ((Tx.of_same sm4).sqT hb) hy4 (by rw [hbl]; show _ + 1 ≤ _; omega) fun nb H5 sm5 hnb => ?_
    have sm45 := sm4.trans sm5
    have tx5 := Tx.of_same sm45
    walk_at "go"
    rw [hbl]
    refine w_new (by simp) fun e1 he1 => ?_
    walk_at "go"
    refine w_tupL (SqL.of upd_same) fun e2 he2 => ?_
    walk_at "go"
    refine w_new (by simp) fun nv hnv => ?_
    have sm6 : Same H5 (upd (upd (upd H5 e1 (.lst [vI L.rows.length])) e2 (.tup [vI L.rows.length])) nv (.tup [vS l, .ref nb, .ref e2])) := Same.new' (Same.new' (same_new he1) he2) hnv
    have hN6 : LotAt K (upd (upd (upd H5 e1 (.lst [vI L.rows.length])) e2 (.tup [vI L.rows.length])) nv (.tup [vS l, .ref nb, .ref e2])) nv ⟨l, L.rows ++ [List.replicate l.length 0], [L.rows.length]⟩ := by
      have tx6 := Tx.of_same sm6
      refine ⟨nb, e2, SqT.of upd_same, ⟨_, tx6.sqT hnb, ?_, fun i r e => ?_⟩, SqT.of (get_ne (ne_of_none upd_same hnv) upd_same)⟩
      · show (rs ++ [V.ref z]).length = (L.rows ++ [List.replicate l.length 0]).length
        rw [List.length_append, List.length_append, hbl]
        rfl
      · have e : (L.rows ++ [List.replicate l.length 0])[i]? = some r := e
        by_cases hi : i < L.rows.length
        · rw [List.getElem?_append_left hi] at e
          obtain ⟨u, u1, u2⟩ := hrs' i r e
          exact ⟨u, by rw [List.getElem?_append_left (by omega)]; exact u1, (tx5.trans tx6).sqT u2⟩
        · have hi2 : i = L.rows.length := by
            have := (List.getElem?_eq_some_iff.mp e).1
            rw [List.length_append, List.length_singleton] at this
            omega
          subst hi2
          rw [List.getElem?_append_right (Nat.le_refl _), Nat.sub_self] at e
          have e' : List.replicate l.length 0 = r := Option.some.inj e
          subst e'
          exact ⟨z, by rw [List.getElem?_append_right (by omega), hbl, Nat.sub_self]; rfl, ((Tx.of_same sm5).trans tx6).sqT hz4⟩
    have sm26 := sm45.trans sm6
    generalize upd (upd (upd H5 e1 (.lst [vI L.rows.length])) e2 (.tup [vI L.rows.length])) nv (.tup [vS l, .ref nb, .ref e2]) = H6 at hN6 sm26 ⊢
    clear sm6 sm5 sm4 sm3 hz3 hz4 hy4 hz hy he1 he2 hnv tx5 hnb sm45
    have tx6 := Tx.of_same sm26
    -- others
    walk_at "go"
    rw [hbl]
    refine w_lcR1Q (by omega) (by omega) (fun Dl i H' => ∃ es : List Nat, es.length ≤ i ∧ (∀ e ∈ es, e < L.rows.length) ∧ H' Dl = some (.lst (es.map vI)) ∧ Same H6 H') (fun Dl hD => ⟨[], Nat.le_refl _, (fun e he => nomatch he), upd_same, same_new hD⟩) ?_ ?_
    · rintro Dl i H' hD hi ⟨es, hel, hlt, hd', sm'⟩
      have txi := tx6.trans (Tx.of_same sm')
      walk_at "go"
      refine ⟨rfl, ?_⟩
      walk_at "go"
      refine w_ninIT (txi.sqT hc) ?_
      refine w_exbl ?_
      refine ite2 (fun e => ?_) (fun e => ?_)
      · walk_at "go"
        refine w_acc hd' (by rw [List.length_map]; omega) ⟨es ++ [i], by rw [List.length_append, List.length_singleton]; omega, fun x hx => ?_, ?_, Same.mut sm' hD⟩
        · rcases List.mem_append.mp hx with hx | hx
          · exact hlt x hx
          · rw [List.mem_singleton.mp hx]
            omega
        · rw [upd_same, List.map_append]
          rfl
      · exact ⟨es, by omega, hlt, hd', sm'⟩
    rintro oe H7 hoe ⟨es, hel, hlt, hoe7, sm7⟩
    rw [Int.toNat_natCast] at hel
    walk_at "go"
    refine w_tupL (SqL.of hoe7) fun ot1 hot1 => ?_
    walk_at "go"
    refine w_new (by simp) fun ot hot => ?_
    have sm8 : Same H6 (upd (upd H7 ot1 (.tup (es.map vI))) ot (.tup [vS l, .ref b, .ref ot1])) := Same.new' (Same.new' sm7 hot1) hot
    have hO8 : LotAt K (upd (upd H7 ot1 (.tup (es.map vI))) ot (.tup [vS l, .ref b, .ref ot1])) ot ⟨l, L.rows, es⟩ :=
      ⟨b, ot1, SqT.of upd_same, hrs.tx (tx6.trans (Tx.of_same sm8)), SqT.of (get_ne (ne_of_none upd_same hot) upd_same)⟩
    have hN8 := hN6.tx (Tx.of_same sm8)
    have sm28 := sm26.trans sm8
    generalize upd (upd H7 ot1 (.tup (es.map vI))) ot (.tup [vS l, .ref b, .ref ot1]) = H8 at hO8 hN8 sm28 ⊢
    clear sm8 sm7 hoe7 hot1 hot sm26 tx6 hN6
    have tx8 := Tx.of_same sm28
    -- every
    walk_at "go"
    rw [hbl]
    refine w_tupRg0 (by omega) fun ev1 hev1 => ?_
    walk_at "go"
    refine w_new (by simp) fun ev hev => ?_
    have sm9 : Same H8 (upd (upd H8 ev1 (.tup ((List.range L.rows.length).map vI))) ev (.tup [vS l, .ref b, .ref ev1])) := Same.new' (same_new hev1) hev
    have hE9 : LotAt K (upd (upd H8 ev1 (.tup ((List.range L.rows.length).map vI))) ev (.tup [vS l, .ref b, .ref ev1])) ev ⟨l, L.rows, List.range L.rows.length⟩ :=
      ⟨b, ev1, SqT.of upd_same, hrs.tx (tx8.trans (Tx.of_same sm9)), SqT.of (get_ne (ne_of_none upd_same hev) upd_same)⟩
    have hN9 := hN8.tx (Tx.of_same sm9)
    have hO9 := hO8.tx (Tx.of_same sm9)
    have sm29 := sm28.trans sm9
    generalize upd (upd H8 ev1 (.tup ((List.range L.rows.length).map vI))) ev (.tup [vS l, .ref b, .ref ev1]) = H9 at hE9 hN9 hO9 sm29 ⊢
    clear sm9 sm28 tx8 hN8 hO8 hev1 hev
    have tx9 := Tx.of_same sm29
    -- last
    have hne : reach L ≠ [] := fun e => by
      have := reach0 L
      rw [e] at this
      simp at this
    obtain ⟨fr, lp, hfr⟩ : ∃ fr lp, reach L = fr ++ [lp] := ⟨_, _, (List.dropLast_concat_getLast hne).symm⟩
    have hlp : lp ∈ reach L := by rw [hfr]; simp
    have hlpn := bfs_lt n0 (fun r hr => (hg.rl r hr).2) _ lp hlp
    have hks9 := sm29 _ _ hks
    walk_at "go"
    refine w_ixL (SqL.of hks9) (v := vI lp.1) (by rw [hfr, List.map_append]; exact atI_last) ?_
    walk_at "go"
    refine w_new (by simp) fun la1 hla1 => ?_
    walk_at "go"
    refine w_new (by simp) fun la hla => ?_
    have sm10 : Same H9 (upd (upd H9 la1 (.tup [vI lp.1])) la (.tup [vS l, .ref b, .ref la1])) := Same.new' (same_new hla1) hla
    have hA10 : LotAt K (upd (upd H9 la1 (.tup [vI lp.1])) la (.tup [vS l, .ref b, .ref la1])) la ⟨l, L.rows, [lp.1]⟩ :=
      ⟨b, la1, SqT.of upd_same, hrs.tx (tx9.trans (Tx.of_same sm10)), SqT.of (get_ne (ne_of_none upd_same hla) upd_same)⟩
    have hN10 := hN9.tx (Tx.of_same sm10)
    have hO10 := hO9.tx (Tx.of_same sm10)
    have hE10 := hE9.tx (Tx.of_same sm10)
    have sm210 := sm29.trans sm10
    generalize upd (upd H9 la1 (.tup [vI lp.1])) la (.tup [vS l, .ref b, .ref la1]) = H10 at hA10 hE10 hN10 hO10 sm210 ⊢
    clear sm10 sm29 tx9 hN9 hO9 hE9 hla1 hla hks9
    have tx10 := Tx.of_same sm210
    -- the first loop
    walk_at "go"
    refine w_new (by simp) fun ni1 hni1 => ?_
    walk_at "go"
    refine w_new (by simp) fun ni hni => ?_
    walk_at "go"
    refine w_new (by simp) fun L6 hL6 => ?_
    have sm11 : Same H10 (upd (upd (upd H10 ni1 (.tup [])) ni (.tup [vS l, .ref b, .ref ni1])) L6 (.lst [.ref x, .ref nv, .ref ot, .ref ev, .ref la, .ref ni])) := Same.new' (Same.new' (same_new hni1) hni) hL6
    have hI11 : LotAt K (upd (upd (upd H10 ni1 (.tup [])) ni (.tup [vS l, .ref b, .ref ni1])) L6 (.lst [.ref x, .ref nv, .ref ot, .ref ev, .ref la, .ref ni])) ni ⟨l, L.rows, []⟩ := by
      have h1 : upd (upd H10 ni1 (.tup [])) ni (.tup [vS l, .ref b, .ref ni1]) ni1 = some (.tup []) := get_ne (ne_of_none upd_same hni) upd_same
      have h2 : upd (upd H10 ni1 (.tup [])) ni (.tup [vS l, .ref b, .ref ni1]) ni = some (.tup [vS l, .ref b, .ref ni1]) := upd_same
      exact ⟨b, ni1, SqT.of (get_ne (ne_of_none h2 hL6) h2), hrs.tx (tx10.trans (Tx.of_same sm11)), SqT.of (get_ne (ne_of_none h1 hL6) h1)⟩
    have hN11 := hN10.tx (Tx.of_same sm11)
    have hO11 := hO10.tx (Tx.of_same sm11)
    have hE11 := hE10.tx (Tx.of_same sm11)
    have hA11 := hA10.tx (Tx.of_same sm11)
    have sm211 := sm210.trans sm11
    have hX11 := hL2'.tx (Tx.of_same sm211)
    have hq11 := sm211 _ _ hq2
    have hP11 := hP2.same sm211
    have hL11 : upd (upd (upd H10 ni1 (.tup [])) ni (.tup [vS l, .ref b, .ref ni1])) L6 (.lst [.ref x, .ref nv, .ref ot, .ref ev, .ref la, .ref ni]) L6 = some (.lst [.ref x, .ref nv, .ref ot, .ref ev, .ref la, .ref ni]) := upd_same
    have hLq : L6 ≠ qa := fun e => by
      rw [e] at hL11 hq11
      rw [hL11] at hq11
      simp at hq11
    generalize upd (upd (upd H10 ni1 (.tup [])) ni (.tup [vS l, .ref b, .ref ni1])) L6 (.lst [.ref x, .ref nv, .ref ot, .ref ev, .ref la, .ref ni]) = H11 at hI11 hN11 hO11 hE11 hA11 hX11 hq11 hP11 hL11 ⊢
    clear sm11 sm210 tx10 hN10 hO10 hE10 hA10 hni1 hni hL6 sm211
    have gx : Good L := hg
    have gn : Good ⟨l, L.rows ++ [List.replicate l.length 0], [L.rows.length]⟩ := by
      have el : (L.rows ++ [List.replicate l.length 0]).length = L.rows.length + 1 := by rw [List.length_append]; rfl
      refine ⟨?_, ?_, hl6, fun r hr => ?_, fun e he => ?_, by show 1 ≤ 400; omega⟩
      · show 0 < (L.rows ++ [List.replicate l.length 0]).length
        omega
      · show (L.rows ++ [List.replicate l.length 0]).length ≤ 400
        omega
      · show r.length = l.length ∧ ∀ x ∈ r, x < (L.rows ++ [List.replicate l.length 0]).length
        rw [el]
        rcases List.mem_append.mp (show r ∈ L.rows ++ [List.replicate l.length 0] from hr) with hr | hr
        · have := hg.rl r hr
          rw [hLl] at this
          exact ⟨this.1, fun x hx => Nat.lt_succ_of_lt (this.2 x hx)⟩
        · rw [List.mem_singleton.mp hr]
          exact ⟨List.length_replicate, fun x hx => by rw [(List.mem_replicate.mp hx).2]; omega⟩
      · show e < (L.rows ++ [List.replicate l.length 0]).length
        rw [el, List.mem_singleton.mp he]
        omega
    have hout : ∀ r ∈ L.rows ++ [List.replicate l.length 0], ∀ x ∈ r, x < L.rows.length := fun r hr => by
      rcases List.mem_append.mp hr with hr | hr
      · exact (hg.rl r hr).2
      · rw [List.mem_singleton.mp hr]
        exact fun x hx => by rw [(List.mem_replicate.mp hx).2]; omega
    have go := good_ends hg hLl hlt (by omega)
    have ge := good_ends (es := List.range L.rows.length) hg hLl (fun e he => List.mem_range.mp he) (by rw [List.length_range]; omega)
    have ga := good_ends (es := [lp.1]) hg hLl (fun e he => by rw [List.mem_singleton.mp he]; exact hlpn) (by simp)
    have gi := good_ends (es := []) hg hLl (fun e he => nomatch he) (by simp)
    have same : ∀ es : List Nat, reach ⟨l, L.rows, es⟩ = reach L := fun es => by
      have h : ∀ i, bfs ⟨l, L.rows, es⟩ i = bfs L i := fun i => by
        induction i with
        | zero => rfl
        | succ i ih =>
          show turnB _ i (bfs _ i) = turnB L i (bfs L i)
          rw [ih]
          unfold turnB
          rw [hLl]
      exact h _
    have f2 : firstOf ⟨l, L.rows ++ [List.replicate l.length 0], [L.rows.length]⟩ = none := first_never n0 hout rfl
    have f4 : (firstOf ⟨l, L.rows, List.range L.rows.length⟩).isSome = true := first_some (p := (0, [])) (by rw [same]; exact List.mem_of_getElem? (reach0 L)) (List.mem_range.mpr n0)
    have f5 : (firstOf ⟨l, L.rows, [lp.1]⟩).isSome = true := first_some (p := lp) (by rw [same]; exact hlp) (by simp)
    have f6 : firstOf ⟨l, L.rows, []⟩ = none := first_nil rfl
    obtain ⟨s1, s2⟩ := five (L1 := L) (L3 := ⟨l, L.rows, es⟩) f2 f4 f5 f6
    have c2 : ∀ m, countOf ⟨l, L.rows ++ [List.replicate l.length 0], [L.rows.length]⟩ m = 0 := fun m => count_never n0 (fun r hr hx => Nat.lt_irrefl _ (hout r hr _ hx)) rfl m
    have c4 : ∀ m, countOf ⟨l, L.rows, List.range L.rows.length⟩ m ≠ 0 := fun m => count_every ge hl0 rfl m
    generalize hLN : (⟨l, L.rows ++ [List.replicate l.length 0], [L.rows.length]⟩ : Lot) = LN at *
    generalize hLO : (⟨l, L.rows, es⟩ : Lot) = LO at *
    generalize hLE : (⟨l, L.rows, List.range L.rows.length⟩ : Lot) = LE at *
    generalize hLA : (⟨l, L.rows, [lp.1]⟩ : Lot) = LA at *
    generalize hLI : (⟨l, L.rows, []⟩ : Lot) = LI at *
    have key : ∀ (i : Nat) (v : V), [V.ref x, V.ref nv, V.ref ot, V.ref ev, V.ref la, V.ref ni][i]? = some v → ∃ a L', v = .ref a ∧ [L, LN, LO, LE, LA, LI][i]? = some L' ∧ LotAt K H11 a L' ∧ Good L' := by
      intro i v hi
      match i, hi with
      | 0, hi => exact ⟨x, L, (Option.some.inj hi).symm, rfl, hX11, gx⟩
      | 1, hi => exact ⟨nv, LN, (Option.some.inj hi).symm, rfl, hN11, gn⟩
      | 2, hi => exact ⟨ot, LO, (Option.some.inj hi).symm, rfl, hO11, go⟩
      | 3, hi => exact ⟨ev, LE, (Option.some.inj hi).symm, rfl, hE11, ge⟩
      | 4, hi => exact ⟨la, LA, (Option.some.inj hi).symm, rfl, hA11, ga⟩
      | 5, hi => exact ⟨ni, LI, (Option.some.inj hi).symm, rfl, hI11, gi⟩
      | i + 6, hi => simp at hi
    refine w_lstQ (SqL.of hL11) (fun i σ H' => ∃ v9, σ = [some (.ref p), some (vS l), some (.ref qa), some (.ref x), some (.ref ks), some (.ref nv), some (.ref ot), some (.ref ev), some (.ref la), v9, none, none, none] ∧
        H' qa = some (.lst [.int (sFirst true ([L, LN, LO, LE, LA, LI].take i)), .int (sFirst false ([L, LN, LO, LE, LA, LI].take i)), .int 0, .int 0]) ∧ But qa H11 H')
      ⟨_, rfl, hq11, fun _ _ _ h => h⟩ (fun i σ H' _ ⟨_, _, _, h⟩ => SqL.of (h _ _ hLq hL11)) ?_ ?_
    · rintro i v σ H' hi ⟨v9, rfl, hq', but⟩
      obtain ⟨a, L', rfl, hL', hat, hgood⟩ := key i v hi
      walk_at "go"
      refine ⟨a, qa, L', _, _, _, _, rfl, hat.tx (but.tx hq11), hgood, hq', fun H'' but2 hq'' => ?_⟩
      walk_at "go"
      refine ⟨_, rfl, ?_, but.trans but2⟩
      rw [hq'', first_take hL', first_take hL']
      have e1 : b2 (firstOf L').isNone = b2 (decide ((firstOf L').isNone = true)) := by cases (firstOf L') <;> rfl
      have e2 : b2 (firstOf L').isSome = b2 (decide ((firstOf L').isNone = false)) := by cases (firstOf L') <;> rfl
      rw [e1, e2]
    rintro σ H12 ⟨v9, rfl, hq12, but12⟩
    change H12 qa = some (.lst [.int (sFirst true [L, LN, LO, LE, LA, LI]), .int (sFirst false [L, LN, LO, LE, LA, LI]), .int 0, .int 0]) at hq12
    generalize sFirst true [L, LN, LO, LE, LA, LI] = A1 at s1 hq12
    generalize sFirst false [L, LN, LO, LE, LA, LI] = A2 at s2 hq12
    have hP12 := but12.pool hqp hqg hP11
    have tx12 := but12.tx hq11
    walk_at "go"
    refine w_new (by simp) fun Z hZ => ?_
    have hZ13 : upd H12 Z (.lst [V.int 0, V.int 1, V.int 2, V.int 3, V.int 7, V.int 20, V.int 41, V.int 59, V.int 60]) Z = some (.lst [V.int 0, V.int 1, V.int 2, V.int 3, V.int 7, V.int 20, V.int 41, V.int 59, V.int 60]) := upd_same
    have hq13 : upd H12 Z (.lst [V.int 0, V.int 1, V.int 2, V.int 3, V.int 7, V.int 20, V.int 41, V.int 59, V.int 60]) qa = _ := get_ne (ne_of_none hq12 hZ) hq12
    have hP13 := hP12.new (o := .lst [V.int 0, V.int 1, V.int 2, V.int 3, V.int 7, V.int 20, V.int 41, V.int 59, V.int 60]) hZ
    have tx13 : Tx H11 (upd H12 Z (.lst [V.int 0, V.int 1, V.int 2, V.int 3, V.int 7, V.int 20, V.int 41, V.int 59, V.int 60])) := Tx.new tx12 hZ
    have hZp := hP12.ne1 hZ
    have hZg := hP12.ne2 hZ
    generalize upd H12 Z (.lst [V.int 0, V.int 1, V.int 2, V.int 3, V.int 7, V.int 20, V.int 41, V.int 59, V.int 60]) = H13 at hZ13 hq13 hP13 tx13 ⊢
    walk_at "go"
    refine ⟨p, g, 9, rfl, hP13, by omega, by omega, fun H14 r r0 r1 hP14 kp14 => ?_⟩
    have hZ14 := kp14 _ _ hZp hZg hZ13
    have hq14 := kp14 _ _ hqp hqg hq13
    have tx14 := tx13.trans (kp14.tx hP13)
    obtain ⟨m, hm, hat⟩ : ∃ m : Nat, m ≤ 60 ∧ atI [V.int 0, V.int 1, V.int 2, V.int 3, V.int 7, V.int 20, V.int 41, V.int 59, V.int 60] r = some (vI m) := by
      obtain ⟨k, rfl⟩ := Int.eq_ofNat_of_zero_le r0
      match k with
      | 0 => exact ⟨0, by omega, rfl⟩
      | 1 => exact ⟨1, by omega, rfl⟩
      | 2 => exact ⟨2, by omega, rfl⟩
      | 3 => exact ⟨3, by omega, rfl⟩
      | 4 => exact ⟨7, by omega, rfl⟩
      | 5 => exact ⟨20, by omega, rfl⟩
      | 6 => exact ⟨41, by omega, rfl⟩
      | 7 => exact ⟨59, by omega, rfl⟩
      | 8 => exact ⟨60, by omega, rfl⟩
      | k + 9 => omega
    walk_at "go"
    refine w_ixL (SqL.of hZ14) hat ?_
    walk_at "go"
    refine w_new (by simp) fun L5 hL5 => ?_
    have hL15 : upd H14 L5 (.lst [.ref x, .ref nv, .ref ot, .ref ev, .ref la]) L5 = some (.lst [.ref x, .ref nv, .ref ot, .ref ev, .ref la]) := upd_same
    have hq15 : upd H14 L5 (.lst [.ref x, .ref nv, .ref ot, .ref ev, .ref la]) qa = _ := get_ne (ne_of_none hq14 hL5) hq14
    have hP15 := hP14.new (o := .lst [.ref x, .ref nv, .ref ot, .ref ev, .ref la]) hL5
    have tx15 : Tx H11 (upd H14 L5 (.lst [.ref x, .ref nv, .ref ot, .ref ev, .ref la])) := Tx.new tx14 hL5
    have hLq5 : L5 ≠ qa := (ne_of_none hq14 hL5).symm
    generalize upd H14 L5 (.lst [.ref x, .ref nv, .ref ot, .ref ev, .ref la]) = H15 at hL15 hq15 hP15 tx15 ⊢
    obtain ⟨s3, s4⟩ := four (L1 := L) (L3 := LO) (L5 := LA) (c2 m) (c4 m)
    have key2 : ∀ (i : Nat) (v : V), [V.ref x, V.ref nv, V.ref ot, V.ref ev, V.ref la][i]? = some v → ∃ a L', v = .ref a ∧ [L, LN, LO, LE, LA][i]? = some L' ∧ LotAt K H11 a L' ∧ Good L' := by
      intro i v hi
      match i, hi with
      | 0, hi => exact ⟨x, L, (Option.some.inj hi).symm, rfl, hX11, gx⟩
      | 1, hi => exact ⟨nv, LN, (Option.some.inj hi).symm, rfl, hN11, gn⟩
      | 2, hi => exact ⟨ot, LO, (Option.some.inj hi).symm, rfl, hO11, go⟩
      | 3, hi => exact ⟨ev, LE, (Option.some.inj hi).symm, rfl, hE11, ge⟩
      | 4, hi => exact ⟨la, LA, (Option.some.inj hi).symm, rfl, hA11, ga⟩
      | i + 5, hi => simp at hi
    walk_at "go"
    refine w_lstQ (SqL.of hL15) (fun i σ H' => ∃ v9, σ = [some (.ref p), some (vS l), some (.ref qa), some (.ref x), some (.ref ks), some (.ref nv), some (.ref ot), some (.ref ev), some (.ref la), v9, some (vI m), none, none] ∧
        H' qa = some (.lst [.int A1, .int A2, .int (sCount true ([L, LN, LO, LE, LA].take i) m), .int (sCount false ([L, LN, LO, LE, LA].take i) m)]) ∧ But qa H15 H')
      ⟨_, rfl, hq15, fun _ _ _ h => h⟩ (fun i σ H' _ ⟨_, _, _, h⟩ => SqL.of (h _ _ hLq5 hL15)) ?_ ?_
    · rintro i v σ H' hi ⟨v9, rfl, hq', but⟩
      obtain ⟨a, L', rfl, hL', hat, hgood⟩ := key2 i v hi
      walk_at "go"
      refine ⟨a, qa, L', m, _, _, _, _, rfl, hat.tx (tx15.trans (but.tx hq15)), hgood, by omega, hq', fun H'' but2 hq'' => ?_⟩
      walk_at "go"
      refine ⟨_, rfl, ?_, but.trans but2⟩
      rw [hq'', count_take hL', count_take hL']
      have e1 : b2 (decide (countOf L' m = 0)) = b2 (decide (decide (countOf L' m = 0) = true)) := by cases decide (countOf L' m = 0) <;> rfl
      have e2 : b2 (!decide (countOf L' m = 0)) = b2 (decide (decide (countOf L' m = 0) = false)) := by cases decide (countOf L' m = 0) <;> rfl
      rw [e1, e2]
    rintro σ H16 ⟨v9, rfl, hq16, but16⟩
    change H16 qa = some (.lst [.int A1, .int A2, .int (sCount true [L, LN, LO, LE, LA] m), .int (sCount false [L, LN, LO, LE, LA] m)]) at hq16
    generalize sCount true [L, LN, LO, LE, LA] m = A3 at s3 hq16
    generalize sCount false [L, LN, LO, LE, LA] m = A4 at s4 hq16
    have hP16 := but16.pool hqp hqg hP15
    have tx16 := tx15.trans (but16.tx hq15)
    walk_at "go"
    refine ⟨p, g, 61, rfl, hP16, by omega, by omega, fun H17 r' r0' r1' hP17 kp17 => ?_⟩
    obtain ⟨m', rfl⟩ := Int.eq_ofNat_of_zero_le r0'
    have tx17 := tx16.trans (kp17.tx hP16)
    have hq17 := kp17 _ _ hqp hqg hq16
    walk_at "go"
    refine ⟨x, qa, L, m', _, _, _, _, rfl, hX11.tx tx17, gx, by omega, hq17, fun H18 but18 hq18 => ?_⟩
    have hP18 := but18.pool hqp hqg hP17
    have tx18 := tx17.trans (but18.tx hq17)
    walk_at "go"
    refine ⟨la, qa, LA, 0, _, _, _, _, rfl, hA11.tx tx18, ga, by omega, hq18, fun H19 but19 hq19 => ?_⟩
    have hP19 := but19.pool hqp hqg hP18
    have n1 := b2_nn (decide (countOf L m' = 0))
    have n2 := b2_nn (!decide (countOf L m' = 0))
    have n3 := b2_nn (decide (countOf LA 0 = 0))
    have n4 := b2_nn (!decide (countOf LA 0 = 0))
    exact q _ _ _ _ _ s1 s2 (by omega) (by omega) hP19 hq19
abbrev s_law : Stmt := topS 15
theorem sc_law : FnScope ["script", "pool", "wide", "letters", "asked", "many", "chain"] ["script"] (defScope s_law) := ⟨rfl, rfl, rfl, by decide +kernel, rfl, by decide +kernel, by decide +kernel⟩
theorem ok_law {f : Addr} {fd : FuncData} (c__law_pool : Cal P w K mg base 1 "_law_pool" (spPool K)) (c__law_draw : Cal P w K mg base 1 "_law_draw" spDraw) (c__law_letters : Cal P w K mg base 2 "_law_letters" spLetters)
    (c__law_lots_right : Cal P w K mg base 4 "_law_lots_right" (spLots K)) (c__law_chain : Cal P w K mg base 2 "_law_chain" (spChain K)) (c__law_first : Cal P w K mg base 2 "_law_first" (spFirst K)) (c__law_first_right : Cal P w K mg base 3 "_law_first_right" (spFirstR K))
    (c__law_count_right : Cal P w K mg base 2 "_law_count_right" (spCountR K)) (F : Fun K "law" "law" s_law f fd) (b_len : mg "len" = none) (b_min : mg "min" = none) : FnOk P w K mg base CX0 5 f fd ["script"] (spLaw K) := by
  refine F.ok sc_law (fun vs H Q E h => ?_) (fun cdv A outer s H vs Q E hr h => ?_)
  · obtain ⟨a, ns, rfl, _⟩ := h
    rfl
  · obtain ⟨a, ns, rfl, hS, hz, q⟩ := h
    refine ⟨_, (pss_cons (ps_set (i := 1) sc_law.nd rfl (.inl rfl) (pe_c c__law_pool hr (by decide) (by rfl) (pa_cons (pv 0) pa_nil)))
      (pss_cons (ps_set (i := 2) sc_law.nd rfl (.inl rfl) (pe_cmpR op_eqI (pe_c c__law_draw hr (by decide) (by rfl) (pa_cons (pv 1) (pa_cons pe_int pa_nil))) pe_int (nomark _)))
      (pss_cons (ps_set (i := 3) sc_law.nd rfl (.inl rfl) (pe_c c__law_letters hr (by decide) (by rfl) (pa_cons (pv 1) (pa_cons pe_int pa_nil))))
      (pss_cons (ps_set (i := 4) sc_law.nd rfl (.inl rfl) (pe_lst (pa_cons pe_int (pa_cons pe_int (pa_cons pe_int (pa_cons pe_int pa_nil))))))
      (pss_cons (ps_if (pt_not (pt_val (pe_c c__law_lots_right hr (by decide) (by rfl) (pa_cons (pv 1) (pa_cons (pv 3) (pa_cons (pv 4) pa_nil)))))) (pss_one (ps_ret pe_bl)) pss_nil)
      (pss_cut (ps_if (pt_val (pv 2)) (pss_cons (ps_set (i := 5) sc_law.nd rfl (.inl rfl) (pe_op op_sub pe_int (pe_c c__law_draw hr (by decide) (by rfl) (pa_cons (pv 1) (pa_cons pe_int pa_nil)))))
      (pss_one (ps_set (i := 3) sc_law.nd rfl (.inl rfl) (pe_slice sl_S (pv 3) po_none (po_some pe_int))))) (pss_one (ps_set (i := 5) sc_law.nd rfl (.inl rfl) (pe_op op_add pe_int (pe_c c__law_draw hr (by decide) (by rfl) (pa_cons (pv 1) (pa_cons pe_int pa_nil)))))))
      (pss_cons (ps_set (i := 6) sc_law.nd rfl (.inl rfl) (pe_c c__law_chain hr (by decide) (by rfl) (pa_cons (pv 1) (pa_cons (pv 3) (pa_cons (pv 5) pa_nil)))))
      (pss_cons (ps_if (PW.pt (pw_or (pt_not (pt_cmpR op_eqI (pe_callB call_lenS (by rfl) b_len PySem.boot_len (pa_cons (pe_c c__law_first hr (by decide) (by rfl) (pa_cons (pv 6) pa_nil)) pa_nil)) (pe_op op_sub (pv 5) pe_int) (nomark _))) (pw_or1 (pt_not (pt_val (pe_c c__law_first_right hr (by decide) (by rfl) (pa_cons (pv 6) (pa_cons (pv 4) pa_nil)))))))) (pss_one (ps_ret pe_bl)) pss_nil)
      (pss_cons (ps_if (PW.pt (pw_or (pt_not (pt_val (pe_c c__law_count_right hr (by decide) (by rfl) (pa_cons (pv 6) (pa_cons (pe_callB (call_minI rfl) (by rfl) b_min (by decide +kernel) (pa_cons pe_int (pa_cons (pe_op op_sub (pv 5) pe_int) pa_nil))) (pa_cons (pv 4) pa_nil)))))) (pw_or1 (pt_not (pt_val (pe_c c__law_count_right hr (by decide) (by rfl) (pa_cons (pv 6) (pa_cons (pe_op op_fdiv (pv 5) pe_int) (pa_cons (pv 4) pa_nil))))))))) (pss_one (ps_ret pe_bl)) pss_nil)
      (pss_one (ps_ret (pe_and (pe_cmpR op_ge (pe_ix ix_list (pv 4) pe_int (fun _ _ => rfl)) pe_int (nomark _)) (pe_and (pe_cmpR op_ge (pe_ix ix_list (pv 4) pe_int (fun _ _ => rfl)) pe_int (nomark _)) (pe_and (pe_cmpR op_ge (pe_ix ix_list (pv 4) pe_int (fun _ _ => rfl)) pe_int (nomark _)) (pe_one (pe_cmpR op_ge (pe_ix ix_list (pv 4) pe_int (fun _ _ => rfl)) pe_int (nomark _))))))))))))))))), ?_⟩
    refine st_is (σ' := start _ _) (σ := [some (.ref a), none, none, none, none, none, none]) rfl ?_
    try dsimp only [cxOf, Cx.nox, Cx.wish]
    walk_at "go"
    refine ⟨a, ns, rfl, hS, hz, fun H1 p g hp0 hg0 hP1 sm1 => ?_⟩
    walk_at "go"
    refine ⟨p, g, 7, rfl, hP1, by omega, by omega, fun H2 r2 h20 h21 hP2 kp2 => ?_⟩
    walk_at "go"
    refine ⟨p, g, 6, rfl, hP2, by omega, by omega, fun H3 l hl0 hl6 hP3 kp3 => ?_⟩
    walk_at "go"
    refine w_new (by simp) fun qa hqa => ?_
    have hqp := hP3.ne1 hqa
    have hqg := hP3.ne2 hqa
    have hP4 := hP3.new (o := .lst [V.int 0, V.int 0, V.int 0, V.int 0]) hqa
    walk_at "go"
    refine ⟨p, g, qa, l, rfl, hP4, hqp, hqg, hl0, hl6, upd_same, fun H5 x y z u hx hy hz' hu hP5 hq5 => ?_⟩
    walk_at "go"
    have hlp : 0 < l.length := List.length_pos_iff.mpr hl0
    refine w_cut (fun σ H' => ∃ (l' : List Nat) (m : Nat), σ = [some (.ref a), some (.ref p), some (.bl (decide (r2 = 4))), some (vS l'), some (.ref qa), some (vI m), none] ∧ l' ≠ [] ∧ l'.length ≤ 6 ∧ 1 ≤ m ∧ m ≤ 300 ∧ Pool p g H' ∧ H' qa = some (.lst [.int x, .int y, .int z, .int u])) ?_ ?_
    · walk_at "go"
      refine ite2 (fun e => ?_) (fun e => ?_)
      · walk_at "go"
        refine ⟨p, g, 60, rfl, hP5, by omega, by omega, fun H6 r6 h60 h61 hP6 kp6 => ?_⟩
        walk_at "go"
        rw [show (2 : Int) = ((2 : Nat) : Int) from rfl, cutL_to]
        refine ⟨l.take 2, (300 - r6).toNat, ?_, fun e => ?_, by rw [List.length_take]; omega, by omega, by omega, hP6, kp6 _ _ hqp hqg hq5⟩
        · have e : (((300 - r6).toNat : Nat) : Int) = 300 - r6 := by omega
          show _ = [_, _, _, _, _, some (V.int (((300 - r6).toNat : Nat) : Int)), _]
          rw [e]
          rfl
        · cases l with
          | nil => exact hl0 rfl
          | cons c0 r0 => simp at e
      · walk_at "go"
        refine ⟨p, g, 40, rfl, hP5, by omega, by omega, fun H6 r6 h60 h61 hP6 kp6 => ?_⟩
        walk_at "go"
        refine ⟨l, (1 + r6).toNat, ?_, hl0, hl6, by omega, by omega, hP6, kp6 _ _ hqp hqg hq5⟩
        have e : (((1 + r6).toNat : Nat) : Int) = 1 + r6 := by omega
        show _ = [_, _, _, _, _, some (V.int (((1 + r6).toNat : Nat) : Int)), _]
        rw [e]
        rfl
    rintro σ H6 ⟨l', m, rfl, hl0', hl6', m1, m2, hP6, hq6⟩
    walk_at "go"
    refine ⟨p, g, l', m, rfl, hP6, hl0', hl6', m1, m2, fun H7 L c num hg hch hL hP7 kp7 => ?_⟩
    have hq7 := kp7 _ _ hqp hqg hq6
    obtain ⟨t, ht, htl⟩ := chain_first hg hch
    walk_at "go"
    refine ⟨c, L, rfl, hL, hg, fun H8 sm8 => ?_⟩
    have hL8 := hL.tx (Tx.of_same sm8)
    have hq8 := sm8 _ _ hq7
    rw [show optV (firstOf L) = vS t by rw [ht]; rfl]
    walk_at "go"
    rw [decide_eq_true (by omega)]
    walk_at "go"
    refine ⟨c, qa, L, x, y, z, u, rfl, hL8, hg, hq8, fun H9 but9 hq9 => ?_⟩
    have hL9 := hL8.tx (fun b o k e => but9 b o (by
      refine ne_of e hq8 ?_
      rcases k with ⟨_, rfl⟩ | ⟨_, _, rfl⟩ <;> intro z <;> cases z) e)
    rw [ht] at hq9
    walk_at "go"
    rw [show min 60 ((m : Int) - 1) = ((min 60 (m - 1) : Nat) : Int) by omega]
    refine ⟨c, qa, L, _, _, _, _, _, rfl, hL9, hg, by omega, hq9, fun H10 but10 hq10 => ?_⟩
    have hL10 := hL9.tx (fun b o k e => but10 b o (by
      refine ne_of e hq9 ?_
      rcases k with ⟨_, rfl⟩ | ⟨_, _, rfl⟩ <;> intro z <;> cases z) e)
    walk_at "go"
    have e8 : ((m : Int) / 8) = ((m / 8 : Nat) : Int) := rfl
    rw [e8]
    refine ⟨c, qa, L, _, _, _, _, _, rfl, hL10, hg, by omega, hq10, fun H11 but11 hq11 => ?_⟩
    have n1 := b2_nn (decide (countOf L (min 60 (m - 1)) = 0))
    have n2 := b2_nn (!decide (countOf L (min 60 (m - 1)) = 0))
    have n3 := b2_nn (decide (countOf L (m / 8) = 0))
    have n4 := b2_nn (!decide (countOf L (m / 8) = 0))
    have n5 : b2 (some t).isSome = 1 := rfl
    have n6 : b2 (some t).isNone = 0 := rfl
    generalize b2 (decide (countOf L (min 60 (m - 1)) = 0)) = u1 at *
    generalize b2 (!decide (countOf L (min 60 (m - 1)) = 0)) = u2 at *
    generalize b2 (decide (countOf L (m / 8) = 0)) = u3 at *
    generalize b2 (!decide (countOf L (m / 8) = 0)) = u4 at *
    rw [n5, n6] at hq11
    walk_at "go"
    rw [decide_eq_true (by omega)]
    walk_at "go"
    rw [decide_eq_true (by omega)]
    walk_at "go"
    rw [decide_eq_true (by omega)]
    walk_at "go"
    rw [decide_eq_true (by omega)]
    exact q _
end
end My
open PySem PySem.W PyProof.Rows
set_option maxHeartbeats 0 in
theorem PySem.Challenge.cw_seamsight_k07_least_texts_counts_holds : PySem.Challenge.rw_seamsight_k07_least_texts_counts.Holds := by
  w_on; o_law; k_head; (case hw => w_witness2)
  k_fill
  refine L2.walk_of (l := PySem.Challenge.rw_seamsight_k07_least_texts_counts) (n := 63) (k := 5) (x := "script") (CX := fun _ => L2.CX0) (sp := fun w => My.spLaw _) rfl (by decide) rfl ⟨rfl, by decide, by decide⟩ (fun w h Y => PySem.W.kIn_of Y) ?F (fun _ _ a ns hl _ hS => ⟨a, ns, rfl, hS, hl, fun _ => rfl⟩) (fun _ _ _ _ _ h => h)
  case F =>
    intro w mg fa h KX G hmg
    change mg "law" = some (.ref fa) at hmg
    have b_abs : mg "abs" = none := by
      refine PySem.W.mg_none_of KX G ?_
      k_is
    have b_bool : mg "bool" = none := by
      refine PySem.W.mg_none_of KX G ?_
      k_is
    have b_enumerate : mg "enumerate" = none := by
      refine PySem.W.mg_none_of KX G ?_
      k_is
    have b_int : mg "int" = none := by
      refine PySem.W.mg_none_of KX G ?_
      k_is
    have b_isinstance : mg "isinstance" = none := by
      refine PySem.W.mg_none_of KX G ?_
      k_is
    have b_len : mg "len" = none := by
      refine PySem.W.mg_none_of KX G ?_
      k_is
    have b_min : mg "min" = none := by
      refine PySem.W.mg_none_of KX G ?_
      k_is
    have b_range : mg "range" = none := by
      refine PySem.W.mg_none_of KX G ?_
      k_is
    have b_sorted : mg "sorted" = none := by
      refine PySem.W.mg_none_of KX G ?_
      k_is
    have b_str : mg "str" = none := by
      refine PySem.W.mg_none_of KX G ?_
      k_is
    have b_sum : mg "sum" = none := by
      refine PySem.W.mg_none_of KX G ?_
      k_is
    have b_tuple : mg "tuple" = none := by
      refine PySem.W.mg_none_of KX G ?_
      k_is
    have F_least_text : My.At (My.kOf KX) mg "least_text" My.s_least_text := by
      unfold My.kOf
      refine' My.at_mk KX G ?a ?l ?c ?k
      (case a => k_is)
      (case l => k_is)
      (case c => k_is)
      (case k => k_is)
    have F_count_texts : My.At (My.kOf KX) mg "count_texts" My.s_count_texts := by
      unfold My.kOf
      refine' My.at_mk KX G ?a ?l ?c ?k
      (case a => k_is)
      (case l => k_is)
      (case c => k_is)
      (case k => k_is)
    have F__law_pool : My.At (My.kOf KX) mg "_law_pool" My.s__law_pool := by
      unfold My.kOf
      refine' My.at_mk KX G ?a ?l ?c ?k
      (case a => k_is)
      (case l => k_is)
      (case c => k_is)
      (case k => k_is)
    have F__law_draw : My.At (My.kOf KX) mg "_law_draw" My.s__law_draw := by
      unfold My.kOf
      refine' My.at_mk KX G ?a ?l ?c ?k
      (case a => k_is)
      (case l => k_is)
      (case c => k_is)
      (case k => k_is)
    have F__law_letters : My.At (My.kOf KX) mg "_law_letters" My.s__law_letters := by
      unfold My.kOf
      refine' My.at_mk KX G ?a ?l ?c ?k
      (case a => k_is)
      (case l => k_is)
      (case c => k_is)
      (case k => k_is)
    have F__law_lot : My.At (My.kOf KX) mg "_law_lot" My.s__law_lot := by
      unfold My.kOf
      refine' My.at_mk KX G ?a ?l ?c ?k
      (case a => k_is)
      (case l => k_is)
      (case c => k_is)
      (case k => k_is)
    have F__law_reached : My.At (My.kOf KX) mg "_law_reached" My.s__law_reached := by
      unfold My.kOf
      refine' My.at_mk KX G ?a ?l ?c ?k
      (case a => k_is)
      (case l => k_is)
      (case c => k_is)
      (case k => k_is)
    have F__law_first : My.At (My.kOf KX) mg "_law_first" My.s__law_first := by
      unfold My.kOf
      refine' My.at_mk KX G ?a ?l ?c ?k
      (case a => k_is)
      (case l => k_is)
      (case c => k_is)
      (case k => k_is)
    have F__law_count : My.At (My.kOf KX) mg "_law_count" My.s__law_count := by
      unfold My.kOf
      refine' My.at_mk KX G ?a ?l ?c ?k
      (case a => k_is)
      (case l => k_is)
      (case c => k_is)
      (case k => k_is)
    have F__law_first_right : My.At (My.kOf KX) mg "_law_first_right" My.s__law_first_right := by
      unfold My.kOf
      refine' My.at_mk KX G ?a ?l ?c ?k
      (case a => k_is)
      (case l => k_is)
      (case c => k_is)
      (case k => k_is)
    have F__law_count_right : My.At (My.kOf KX) mg "_law_count_right" My.s__law_count_right := by
      unfold My.kOf
      refine' My.at_mk KX G ?a ?l ?c ?k
      (case a => k_is)
      (case l => k_is)
      (case c => k_is)
      (case k => k_is)
    have F__law_chain : My.At (My.kOf KX) mg "_law_chain" My.s__law_chain := by
      unfold My.kOf
      refine' My.at_mk KX G ?a ?l ?c ?k
      (case a => k_is)
      (case l => k_is)
      (case c => k_is)
      (case k => k_is)
    have F__law_lots_right : My.At (My.kOf KX) mg "_law_lots_right" My.s__law_lots_right := by
      unfold My.kOf
      refine' My.at_mk KX G ?a ?l ?c ?k
      (case a => k_is)
      (case l => k_is)
      (case c => k_is)
      (case k => k_is)
    refine' My.fin_of (st := My.s_law) KX G hmg ?a ?l ?c ?k (fun s v => .of_eq rfl) (fun f fd F base => ?_)
    (case a => k_is)
    (case l => k_is)
    (case c => k_is)
    (case k => k_is)
    have c_least_text := My.ok_least_text (P := (PySem.Challenge.rw_seamsight_k07_least_texts_counts).prog) (w := w) (base := base)  F_least_text b_len b_enumerate
    have c_count_texts := My.ok_count_texts (P := (PySem.Challenge.rw_seamsight_k07_least_texts_counts).prog) (w := w) (base := base)  F_count_texts b_len b_range b_enumerate b_sum
    have c__law_pool := My.ok__law_pool (P := (PySem.Challenge.rw_seamsight_k07_least_texts_counts).prog) (w := w) (base := base)  F__law_pool b_int b_abs
    have c__law_draw := My.ok__law_draw (P := (PySem.Challenge.rw_seamsight_k07_least_texts_counts).prog) (w := w) (base := base)  F__law_draw b_int
    have c__law_letters := My.ok__law_letters (P := (PySem.Challenge.rw_seamsight_k07_least_texts_counts).prog) (w := w) (base := base) c__law_draw F__law_letters b_range b_sorted
    have c__law_lot := My.ok__law_lot (P := (PySem.Challenge.rw_seamsight_k07_least_texts_counts).prog) (w := w) (base := base) c__law_draw F__law_lot b_range b_tuple
    have c__law_reached := My.ok__law_reached (P := (PySem.Challenge.rw_seamsight_k07_least_texts_counts).prog) (w := w) (base := base)  F__law_reached b_len b_range
    have c__law_first := My.ok__law_first (P := (PySem.Challenge.rw_seamsight_k07_least_texts_counts).prog) (w := w) (base := base) c__law_reached F__law_first b_len b_range
    have c__law_count := My.ok__law_count (P := (PySem.Challenge.rw_seamsight_k07_least_texts_counts).prog) (w := w) (base := base)  F__law_count b_len b_range b_sum
    have c__law_first_right := My.ok__law_first_right (P := (PySem.Challenge.rw_seamsight_k07_least_texts_counts).prog) (w := w) (base := base) c__law_first c_least_text F__law_first_right b_isinstance b_str
    have c__law_count_right := My.ok__law_count_right (P := (PySem.Challenge.rw_seamsight_k07_least_texts_counts).prog) (w := w) (base := base) c__law_count c_count_texts F__law_count_right b_isinstance b_int b_bool
    have c__law_chain := My.ok__law_chain (P := (PySem.Challenge.rw_seamsight_k07_least_texts_counts).prog) (w := w) (base := base) c__law_draw F__law_chain b_len b_range b_tuple
    have c__law_lots_right := My.ok__law_lots_right (P := (PySem.Challenge.rw_seamsight_k07_least_texts_counts).prog) (w := w) (base := base) c__law_lot c__law_reached c__law_first_right c__law_draw c__law_count_right F__law_lots_right b_len b_range b_tuple
    exact My.ok_law c__law_pool c__law_draw c__law_letters c__law_lots_right c__law_chain c__law_first c__law_first_right c__law_count_right F b_len b_min
