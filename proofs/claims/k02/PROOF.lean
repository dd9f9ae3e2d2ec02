import PyProof.Rows.All
import Wide.All
import OpenK.AllK
import Wide.FinOn
import HandS.ForMost
import HandS.TupAny
import HandS.IsInst
import PySem.Challenge.RW_seamsight_k02_rows_and_marks
set_option Elab.async false
set_option linter.all false
set_option maxRecDepth 100000
set_option maxHeartbeats 4000000
namespace My
open PySem PySem.Spec PyProof.Rows L2

/-! ## texts as lists of codes -/
abbrev S (l : List Nat) : Str := ⟨l.toArray⟩
theorem S_len (l : List Nat) : (S l).length = l.length := by simp [Str.length]
theorem S_tl (l : List Nat) : (S l).cps.toList = l := rfl
theorem exS (x : Str) : x = S x.cps.toList := (TL.mk_tl x).symm
theorem S_inj {a b : List Nat} : S a = S b ↔ a = b := by
  constructor
  · intro h
    have := congrArg (fun x : Str => x.cps.toList) h
    simpa using this
  · intro h
    rw [h]
theorem S_app (a b : List Nat) : S a ++ S b = S (a ++ b) := TL.ext_tl (by rw [TL.tl_append])
theorem S_cut (l : List Nat) (lo hi : Option Int) : cutS (S l) lo hi = S ((l.drop (HT.sIx l.length 0 lo)).take (HT.sIx l.length l.length hi - HT.sIx l.length 0 lo)) := by
  unfold cutS
  rw [S_len]
def cutL {α : Type} (l : List α) (lo hi : Option Int) : List α := (l.drop (HT.sIx l.length 0 lo)).take (HT.sIx l.length l.length hi - HT.sIx l.length 0 lo)
theorem cutV_map {α : Type} (f : α → V) (l : List α) (lo hi : Option Int) : cutV (l.map f) lo hi = (cutL l lo hi).map f := by
  unfold cutV cutL
  rw [List.length_map, ← List.map_drop, ← List.map_take]
abbrev vS (l : List Nat) : V := .str (S l)
theorem line_eq : sizeLine = 16777216 := sizeLine_eq

/-! ## operations on texts, told by lists -/
def zAddS : R2 := fun x y H Q => ∃ a b, x = vS a ∧ y = vS b ∧ a.length + b.length ≤ 16777216 ∧ Q (vS (a ++ b)) H
theorem op_addS {X : Cx} : OpR X (binaryOp .Add) zAddS := by
  intro pins s σ H x y v u Q I rx ry h
  obtain ⟨a, b, rfl, rfl, hz, q⟩ := h
  refine op_add_str pins s σ H _ _ v u Q I rx ry ⟨S a, S b, rfl, rfl, by rw [S_len, S_len, line_eq]; exact hz, ?_⟩
  rw [S_app]
  exact q
theorem foldl_app (x : Array Nat) : ∀ (n : Nat) (a : Array Nat), (List.replicate n x).foldl (· ++ ·) a = (a.toList ++ (List.replicate n x.toList).flatten).toArray
  | 0, a => by simp
  | n + 1, a => by
    rw [List.replicate_succ, List.foldl_cons, foldl_app x n (a ++ x), List.replicate_succ, List.flatten_cons, Array.toList_append, List.append_assoc]
def rep {α : Type} (n : Int) (l : List α) : List α := (List.replicate n.toNat l).flatten
theorem rep_len {α : Type} (n : Int) (l : List α) : (rep n l).length = n.toNat * l.length := by
  unfold rep
  simp
def zMulS : R2 := fun x y H Q => ∃ (l : List Nat) (n : Int), x = vS l ∧ y = .int n ∧ -100000000 ≤ n ∧ n ≤ 100000000 ∧ l.length * n.toNat ≤ 16777216 ∧ Q (vS (rep n l)) H
theorem op_mulS {X : Cx} : OpR X (binaryOp .Mult) zMulS := by
  intro pins s σ H x y v u Q I rx ry h
  obtain ⟨l, n, rfl, rfl, h1, h2, hz, q⟩ := h
  obtain ⟨t, rfl⟩ := rx
  obtain ⟨t', rfl⟩ := ry
  refine PySem.P.mul_str (x := S l) (n := n) ?_ (fun g1 g2 => ?_) (fun g1 g2 => ?_) ?_
  · have e1 : ¬ n < -(2 ^ 63 : Int) := by omega
    have e2 : ¬ n ≥ (2 ^ 63 : Int) := by omega
    rw [decide_eq_false e1, decide_eq_false e2]
    rfl
  · rw [S_len]
    have hn : 1 ≤ n := by omega
    intro hgt
    have hle : (l.length : Int) * n ≤ 16777216 := by
      have e : ((l.length * n.toNat : Nat) : Int) ≤ ((16777216 : Nat) : Int) := Int.ofNat_le.mpr hz
      have e2 : ((n.toNat : Nat) : Int) = n := by omega
      rw [Int.natCast_mul, e2] at e
      exact e
    have hl : (l.length : Int) ≤ 16777216 := by
      have hmul : (l.length : Int) * 1 ≤ (l.length : Int) * n := Int.mul_le_mul_of_nonneg_left hn (by omega)
      omega
    have hdiv : (16777216 : Int) ≤ (2 ^ 63 - 1) / n := by
      rw [Int.le_ediv_iff_mul_le (by omega)]
      omega
    omega
  · rw [S_len]
    unfold Builtin.Str.tooLong
    rw [line_eq]
    exact decide_eq_false (by omega)
  · by_cases hn : n < 1
    · rw [if_pos hn]
      refine ⟨by decide, vS (rep n l), H, I.tok _, ?_, q⟩
      have e0 : n.toNat = 0 := by omega
      refine ⟨s.toks, ?_⟩
      show Value.str Str.empty s.toks = Value.str (S (rep n l)) _
      unfold rep
      rw [e0]
      rfl
    · rw [if_neg hn]
      by_cases he : (n == 1 || (S l).length == 0) = true
      · rw [if_pos he]
        have er : rep n l = l := by
          unfold rep
          simp only [Bool.or_eq_true, beq_iff_eq, S_len] at he
          rcases he with e | e
          · subst e
            simp
          · have : l = [] := List.eq_nil_of_length_eq_zero e
            subst this
            simp
        refine ⟨vS (rep n l), H, I, ⟨t, by rw [er]⟩, q⟩
      · rw [if_neg he]
        have ec : (⟨(List.replicate n.toNat (S l).cps).foldl (· ++ ·) #[]⟩ : Str) = S (rep n l) := by
          rw [foldl_app]
          rfl
        rw [ec]
        refine ⟨by rw [S_len, rep_len, Nat.mul_comm, line_eq]; exact hz, vS (rep n l), H, I.tok _, ⟨_, rfl⟩, q⟩

/-! ## enumerate of a text -/
def Ites (x : Str) : It := ⟨fun i _ => i < x.cps.size, fun i H v H' => ∃ T c, v = .ref T ∧ H T = none ∧ H' = upd H T (.tup [.int (i : Nat), .str ⟨#[c]⟩]) ∧ x.cps[i]? = some c, fun i _ => i = x.cps.size⟩
theorem turn_enumS {P : Program} {w : World} {K : PySem.W.Frag} {elts : List Expr} {kk : Nat} {tpos : Pos} (e it : Addr) (x : Str) (t : Tok) (ty : String) (hty : ty = "str_ascii_iterator" ∨ ty = "str_iterator") :
    Turn P w K (.Tuple elts kk tpos) (Ites x) [e, it] e (fun i h => (∃ old, IsEnum h e it ((i : Nat) : Int) old) ∧ h.IsStrIter it ty x t i ∧ e ≠ it) where
  mem := by simp
  obj := fun i h st b hb => by
    obtain ⟨⟨old, he⟩, ⟨o, ho, hc, hd⟩, _⟩ := st
    have e' : b = e ∨ b = it := by simpa using hb
    rcases e' with z | z
    · rw [z]; exact ⟨_, he, fun v q => nomatch q⟩
    · rw [z]; exact ⟨o, ho, fun v q => by rw [hd] at q; cases q⟩
  keep := fun i h h' st k => let ⟨⟨old, he⟩, ⟨o, ho, r⟩, hne⟩ := st; ⟨⟨old, k e (by simp) _ he⟩, ⟨o, k it (by simp) o ho, r⟩, hne⟩
  item := by
    intro X hP hw hK hc i pins s σ H E I hf st hg
    subst hP hw hK
    obtain ⟨⟨old, he⟩, hit, hne⟩ := st
    have hel : e < s.heap.objs.size := Heap.lt_size he
    have hil : it < s.heap.objs.size := by obtain ⟨_, q, _⟩ := hit; exact Heap.lt_size q
    have D : Draws X.prog X.w X.A.in1 it [it] x.cps.size (fun i v => ∃ c u, x.cps[i]? = some c ∧ v = .str ⟨#[c]⟩ u) (fun i h => h.IsStrIter it ty x t i) := by
      rcases hty with q | q
      · rw [q]; exact Draws.strAscii (A := X.A.in1) (I.ok.hd hc) it x t
      · rw [q]; exact Draws.strWide (A := X.A.in1) (I.ok.hd hc) it x t
    refine wpAny_pyNext_enum_itemD D he hit hg hne (by simpa using hne) fun v h' tk hv ho hit' hT hsz hk => ?_
    obtain ⟨c, u, hcx, rfl⟩ := hv
    refine ⟨_, rfl, wpAny_letOwnedTupleGo_enum (s := { s with heap := h', toks := tk + 1 }) ho fun h'' he' sb => ?_⟩
    have hT2 : h''.get? s.heap.objs.size = some { cls := .type "tuple", data := .seq #[.int i tk, .str ⟨#[c]⟩ u] } := (sb.2 _ (Nat.ne_of_gt hel)).trans hT
    have new : ObjOk X.prog X.w (upd H s.heap.objs.size (.tup [.int (i : Nat), .str ⟨#[c]⟩])) h'' s.heap.objs.size (.tup [.int (i : Nat), .str ⟨#[c]⟩]) :=
      ⟨by show 2 ≤ sizeLine; decide, [.int i tk, .str ⟨#[c]⟩ u], .cons ⟨_, rfl⟩ (.cons ⟨_, rfl⟩ .nil), ⟨_, hT2, rfl, _, rfl⟩⟩
    have I1 : Inv X pins σ (upd H s.heap.objs.size (.tup [.int (i : Nat), .str ⟨#[c]⟩])) { s with heap := h'', toks := tk + 1 } :=
      I.turnedNew (ch := [e, it]) (fun b ob hb q => (sb.2 b (fun z => hb (by simp [z]))).trans (hk b ob (fun z => hb (by simp [z])) (fun z => hb (by simp [z])) q)) hf (Nat.le_refl _) new
    refine ⟨.ref s.heap.objs.size, _, I1, rfl, ⟨_, c, rfl, I.hok.fresh (Nat.le_refl _), rfl, hcx⟩, ⟨⟨.str ⟨#[c]⟩ u, ?_⟩, ?_, hne⟩, fun b hb => ?_⟩
    · have e1 : ((i + 1 : Nat) : Int) = (i : Int) + 1 := by omega
      rw [e1]; exact he'
    · obtain ⟨o, q, r⟩ := hit'
      exact ⟨o, (sb.2 it (Ne.symm hne)).trans q, r⟩
    · have hb' : b < s.heap.objs.size := by
        have e' : b = e ∨ b = it := by simpa using hb
        rcases e' with z | z
        · rw [z]; exact hel
        · rw [z]; exact hil
      rw [upd_ne (Nat.ne_of_lt hb')]
      exact (hf b hb).1
  done := by
    intro X hP hw hK hc i pins s σ H E I hf st hg
    subst hP hw hK
    obtain ⟨⟨old, he⟩, hit, hne⟩ := st
    obtain ⟨f0, f1, f2, f3, f4, f5⟩ := hf it (by simp)
    have hi : i = x.cps.size := hg
    subst hi
    have D : Draws X.prog X.w X.A.in1 it [it] x.cps.size (fun i v => ∃ c u, x.cps[i]? = some c ∧ v = .str ⟨#[c]⟩ u) (fun i h => h.IsStrIter it ty x t i) := by
      rcases hty with q | q
      · rw [q]; exact Draws.strAscii (A := X.A.in1) (I.ok.hd hc) it x t
      · rw [q]; exact Draws.strWide (A := X.A.in1) (I.ok.hd hc) it x t
    exact wpAny_pyNext_enum_endD D he hit fun h' eb => ⟨rfl, I.turned (t' := s.toks) (fun b o hb q => eb b o hb q) f0 f1 f3 f4 f5⟩
  self := fun A i s Q E st h => let ⟨⟨_, he⟩, _⟩ := st; wpAny_pyIter_enum he h
def iEnumS (ta : TA) : TI := fun σ H R => ta σ H fun vs H1 => ∃ x, vs = [.str x] ∧ R (Ites x) H1
theorem pi_enumS {X : Cx} {e : Expr} {ta : TA} {p pos tpos : Pos} {elts : List Expr} {kk : Nat} (hg : Gl X "enumerate") (hm : X.mg "enumerate" = none) (ha : PA X [e] ta) (hs : starEach [e] X.env = [(false, eval e X.env)] := by rfl) :
    PI X (.Tuple elts kk tpos) (.Call (.Name "enumerate" p) [e] [] pos) (iEnumS ta) := by
  refine ⟨fun pins s σ H R I h => ?_⟩
  refine Call_ (ld_blt I hg hm boot_enumerate (PyProof.Rows.callWith_type1 (thn (ha.run pos pins s σ H _ I h) fun us s1 ⟨vs, H1, I1, r1, q1⟩ => ?_) hs rfl))
  obtain ⟨x, ex, q⟩ := q1
  subst ex
  cases r1 with
  | cons r rr =>
    cases rr
    obtain ⟨t, rfl⟩ := r
    refine call_enumerate_str fun h' he hit hsz hk => wpAny_pyIter_enum he ?_
    have I2 : Inv X pins σ H1 { s1 with heap := h' } := I1.kept (t' := s1.toks) hk
    have hty : strIterType x = "str_ascii_iterator" ∨ strIterType x = "str_iterator" := by
      unfold strIterType
      cases x.cps.all (· < 128) <;> simp
    refine ⟨s1.heap.objs.size + 1, [s1.heap.objs.size + 1, s1.heap.objs.size], _, _, H1, rfl, I2, turn_enumS (s1.heap.objs.size + 1) s1.heap.objs.size x t _ hty, ⟨⟨.none, he⟩, hit, Nat.succ_ne_self _⟩, fun b hb => ?_, q⟩
    have e' : b = s1.heap.objs.size + 1 ∨ b = s1.heap.objs.size := by simpa using hb
    have hle : s1.heap.objs.size ≤ b := by
      rcases e' with z | z
      · rw [z]; exact Nat.le_add_right _ _
      · rw [z]; exact Nat.le_refl _
    exact I1.fpOk hle (I1.hok.fresh hle)
theorem for_enumS {l : List Nat} {g : TG} {tb : TS} {D : Ends} {σ : L2.St} {H : Hp} (Pv : Nat → L2.St → Hp → Prop) (h0 : Pv 0 σ H)
    (hs : ∀ i c σ H T, l[i]? = some c → Pv i σ H → H T = none → g (.ref T) σ (upd H T (.tup [.int (i : Nat), vS [c]])) fun σ2 H2 => tb { D with nx := Pv (i + 1), ct := Pv (i + 1), bk := D.nx } σ2 H2) (hd : ∀ σ H, Pv l.length σ H → D.nx σ H) :
    ∃ W : Nat → Nat → L2.St → Hp → Prop, (∃ m, W 0 m σ H) ∧ ∀ i m σ H, W i m σ H →
      ((Ites (S l)).stop i H ∧ D.nx σ H) ∨ ((Ites (S l)).go i H ∧ ∃ N : L2.St → Hp → Prop, (∀ σ' H', N σ' H' → ∃ m', m' < m ∧ W (i + 1) m' σ' H') ∧ ∀ x H', (Ites (S l)).yld i H x H' → g x σ H' fun σ2 H2 => tb { D with nx := N, ct := N, bk := D.nx } σ2 H2) := by
  refine ⟨fun i m σ H => m = l.length - i ∧ i ≤ l.length ∧ Pv i σ H, ⟨l.length, by simp, Nat.zero_le _, h0⟩, ?_⟩
  rintro i m σ H ⟨rfl, hi, p⟩
  by_cases hlt : i < l.length
  · refine .inr ⟨by simpa [Ites] using hlt, Pv (i + 1), fun σ' H' p' => ⟨l.length - (i + 1), by omega, rfl, hlt, p'⟩, fun x H' y => ?_⟩
    obtain ⟨T, c, rfl, hT, rfl, hc⟩ := y
    exact hs i c σ H T (by simpa using hc) p hT
  · have e : i = l.length := by omega
    subst e
    exact .inl ⟨by simp [Ites], hd σ H p⟩

/-! ## named rules -/
def zEqI : R2 := rI0 fun i j => .bl (decide (i = j))
def zNeI : R2 := rI0 fun i j => .bl (!decide (i = j))
def zEqS : R2 := fun x y H Q => ∃ a b : List Nat, x = vS a ∧ y = vS b ∧ Q (.bl (decide (a = b))) H
def zNeS : R2 := fun x y H Q => ∃ a b : List Nat, x = vS a ∧ y = vS b ∧ Q (.bl (!decide (a = b))) H
theorem dec_I {i j : Int} : decide (V.int i = V.int j) = decide (i = j) := by
  by_cases h : i = j
  · subst h; simp
  · rw [decide_eq_false h, decide_eq_false (fun e => h (V.int.inj e))]
theorem dec_S {a b : List Nat} : decide (vS a = vS b) = decide (a = b) := by
  by_cases h : a = b
  · subst h; simp
  · rw [decide_eq_false h, decide_eq_false (fun e => h (S_inj.mp (V.str.inj e)))]
section
variable {X : Cx}
theorem op_eqI : OpR X (compareOp .Eq) zEqI := by
  intro pins s σ H x y v u Q I rx ry h
  obtain ⟨i, j, rfl, rfl, q⟩ := h
  exact op_eq pins s σ H _ _ v u Q I rx ry ⟨rfl, by rw [dec_I]; exact q⟩
theorem op_neI : OpR X (compareOp .NotEq) zNeI := by
  intro pins s σ H x y v u Q I rx ry h
  obtain ⟨i, j, rfl, rfl, q⟩ := h
  exact op_ne pins s σ H _ _ v u Q I rx ry ⟨rfl, by rw [dec_I]; exact q⟩
theorem op_eqS : OpR X (compareOp .Eq) zEqS := by
  intro pins s σ H x y v u Q I rx ry h
  obtain ⟨i, j, rfl, rfl, q⟩ := h
  exact op_eq pins s σ H _ _ v u Q I rx ry ⟨rfl, by rw [dec_S]; exact q⟩
theorem op_neS : OpR X (compareOp .NotEq) zNeS := by
  intro pins s σ H x y v u Q I rx ry h
  obtain ⟨i, j, rfl, rfl, q⟩ := h
  exact op_ne pins s σ H _ _ v u Q I rx ry ⟨rfl, by rw [dec_S]; exact q⟩
def zLenS : List V → Hp → VK → Prop := fun xs H Q => ∃ l, xs = [vS l] ∧ l.length ≤ 16777216 ∧ Q (.int l.length) H
theorem call_lenS : CallR X (.builtin "len") zLenS := by
  intro pins s σ H xs us Q I r h
  obtain ⟨l, rfl, hz, q⟩ := h
  refine call_len_str pins s σ H _ us Q I r ⟨S l, rfl, by rw [S_len, line_eq]; exact hz, ?_⟩
  rw [S_len]
  exact q
def zLenQ (K : PySem.W.Frag) : List V → Hp → VK → Prop := fun xs H Q => ∃ p ys, xs = [.ref p] ∧ (SqL K H p ys ∨ SqT K H p ys) ∧ Q (.int ys.length) H
theorem call_lenQ : CallR X (.builtin "len") (zLenQ X.K) := call_len_seq
def zInt1 : List V → Hp → VK → Prop := fun xs H Q => ∃ i, xs = [.int i] ∧ Q (.int i) H
theorem call_intI : CallR X (.type "int") zInt1 := by
  intro pins s σ H xs us Q I r h
  obtain ⟨i, rfl, q⟩ := h
  exact call_int1 pins s σ H _ us Q I r (.inl ⟨i, rfl, q⟩)
def zAbs : List V → Hp → VK → Prop := fun xs H Q => ∃ i : Int, xs = [.int i] ∧ Q (.int (i.natAbs : Int)) H
theorem call_absI : CallR X (.builtin "abs") zAbs := by
  intro pins s σ H xs us Q I r h
  obtain ⟨i, rfl, q⟩ := h
  refine call_abs pins s σ H _ us Q I r ⟨i, rfl, ?_⟩
  have e : (if i < 0 then -i else i) = (i.natAbs : Int) := by
    split <;> omega
  rw [e]
  exact q
def zMin2 : List V → Hp → VK → Prop := fun xs H Q => ∃ i j : Int, xs = [.int i, .int j] ∧ Q (.int (min i j)) H
theorem call_minI (hc : X.calm = true) : CallR X (.builtin "min") zMin2 := by
  intro pins s σ H xs us Q I r h
  obtain ⟨i, j, rfl, q⟩ := h
  refine call_min2 hc pins s σ H _ us Q I r ⟨i, j, rfl, ?_⟩
  have e : (if j < i then j else i) = min i j := by
    split <;> omega
  rw [e]
  exact q
def zIxS : R2 := fun x y H Q => ∃ (l : List Nat) (i : Int) (c : Nat), x = vS l ∧ y = .int i ∧ l.length ≤ 16777216 ∧ atI l i = some c ∧ Q (vS [c]) H
theorem ix_S : IxR X zIxS := by
  intro value slice pins s σ H x y v u Q I rx ry h hs
  obtain ⟨l, i, c, rfl, rfl, hz, ha, q⟩ := h
  refine ix_str value slice pins s σ H _ _ v u Q I rx ry ⟨S l, i, c, rfl, rfl, by rw [S_len, line_eq]; exact hz, ha, q⟩ hs
def zSlS : V → Option Int → Option Int → Hp → VK → Prop := fun x lo hi H Q => ∃ l, x = vS l ∧ l.length ≤ 16777216 ∧ Q (vS (cutL l lo hi)) H
theorem sl_S : SlR X zSlS := by
  intro pins s σ H x v vl vu lo hi sl Q I rx hs pl pu h
  obtain ⟨l, rfl, hz, q⟩ := h
  refine sl_str pins s σ H _ v vl vu lo hi sl Q I rx hs pl pu ⟨S l, rfl, by rw [S_len, line_eq]; exact hz, ?_⟩
  rw [S_cut]
  exact q
/-- a text not in a list of texts -/
theorem eqV_S {a b : List Nat} : eqV (vS a) (vS b) = decide (a = b) := by
  show decide (S a = S b) = decide (a = b)
  by_cases h : a = b
  · subst h; simp
  · rw [decide_eq_false h, decide_eq_false (fun e => h (S_inj.mp e))]
theorem inV_S (a : List Nat) (bs : List (List Nat)) : inV (vS a) (bs.map vS) = decide (a ∈ bs) := by
  induction bs with
  | nil => rfl
  | cons b r ih =>
    show (eqV (vS b) (vS a) || inV (vS a) (r.map vS)) = _
    rw [ih, eqV_S]
    by_cases h : b = a
    · subst h; simp
    · have h' : ¬ a = b := fun e => h e.symm
      rw [decide_eq_false h]
      simp [h']
theorem flat_S (bs : List (List Nat)) : (bs.map vS).all flatV = true := by
  rw [List.all_eq_true]
  intro x hx
  obtain ⟨b, _, rfl⟩ := List.mem_map.mp hx
  rfl
def zNinL (K : PySem.W.Frag) : R2 := fun x y H Q => ∃ (a : List Nat) (p : Addr) (bs : List (List Nat)), x = vS a ∧ y = .ref p ∧ (SqL K H p (bs.map vS) ∨ SqT K H p (bs.map vS)) ∧ Q (.bl (!decide (a ∈ bs))) H
theorem op_ninL : OpR X (compareOp .NotIn) (zNinL X.K) := by
  intro pins s σ H x y v u Q I rx ry h
  obtain ⟨a, p, bs, rfl, rfl, hp, q⟩ := h
  refine op_notIn_seq pins s σ H _ _ v u Q I rx ry ⟨p, bs.map vS, rfl, hp, rfl, flat_S bs, ?_⟩
  show Q (.bl (!inV (vS a) (bs.map vS))) H
  rw [inV_S]
  exact q
theorem joinL_nil : ∀ xs : List (List Nat), TL.joinL [] xs = xs.flatten
  | [] => rfl
  | [a] => by simp [TL.joinL]
  | a :: b :: r => by
    have ih := joinL_nil (b :: r)
    simp only [TL.joinL, List.nil_append, List.flatten_cons] at ih ⊢
    first | done | rw [ih]
/-- "".join(a list or tuple of texts) -/
def zJoin0 (K : PySem.W.Frag) : V → List V → Hp → VK → Prop := fun x xs H Q => ∃ (p : Addr) (ys : List (List Nat)), x = vS [] ∧ xs = [.ref p] ∧ (SqL K H p (ys.map vS) ∨ SqT K H p (ys.map vS)) ∧ ys.flatten.length ≤ 16777216 ∧ Q (vS ys.flatten) H
theorem map_S (ys : List (List Nat)) : ys.map vS = (ys.map S).map V.str := by
  rw [List.map_map]
  rfl
theorem mt_join0 : MtR X "str.join" (zJoin0 X.K) := by
  intro pins s σ H x xs v us Q I rx rs h
  obtain ⟨p, ys, rfl, rfl, hp, hz, q⟩ := h
  refine mt_join pins s σ H _ _ v us Q I rx rs ⟨S [], p, ys.map S, rfl, rfl, by rw [← map_S]; exact hp, ?_, ?_⟩
  · have e1 : (S []).length = 0 := rfl
    have e2 : ((ys.map S).map (·.length)).sum = ys.flatten.length := by
      rw [List.map_map, List.length_flatten]
      congr 1



    rw [e1, e2]
    exact hz
  · have e : Txt.join (S []) (ys.map S) = S ys.flatten := by
      rw [TL.join_eq]
      apply TL.ext_tl
      rw [TL.tl_join, List.map_map]
      have e3 : TL.tl (S []) = [] := rfl
      have e4 : ys.map (TL.tl ∘ S) = ys := by
        conv => rhs; rw [← List.map_id ys]
        rfl
      rw [e3, e4, joinL_nil]
    rw [e]
    exact q
/-- sorted(a list of texts), fewer than 64 -/
def zSortedS (K : PySem.W.Frag) : List V → Hp → VK → Prop := fun vs H Q => ∃ (a : Addr) (xs : List (List Nat)), vs = [V.ref a] ∧ SqL K H a (xs.map vS) ∧ xs.length < 64 ∧
  ∀ (ys : List (List Nat)) (p : Addr), ys.Perm xs → sortedS (ys.map S) = true → H p = none → Q (.ref p) (upd H p (.lst (ys.map vS)))
theorem cr_sortedT : CallR X (.builtin "sorted") (zSortedS X.K) := by
  intro pins s σ H vs us Q I r h
  obtain ⟨a, xs, rfl, hs, h64, q⟩ := h
  refine cr_sortedS pins s σ H _ us Q I r ⟨a, xs.map S, rfl, by rw [← map_S]; exact hs, by rw [List.length_map]; exact h64, fun ys p h1 h2 h3 => ?_⟩
  have e : ys.map V.str = (ys.map (fun y => y.cps.toList)).map vS := by
    rw [List.map_map]
    apply List.map_congr_left
    intro y _
    show V.str y = V.str (S y.cps.toList)
    rw [← exS]
  have e2 : (ys.map (fun y => y.cps.toList)).map S = ys := by
    rw [List.map_map]
    conv => rhs; rw [← List.map_id ys]
    apply List.map_congr_left
    intro y _
    exact (exS y).symm
  rw [e]
  refine q _ p ?_ ?_ h3
  · have h4 := h1.map (fun y : Str => y.cps.toList)
    have e5 : (xs.map S).map (fun y : Str => y.cps.toList) = xs := by
      rw [List.map_map]
      conv => rhs; rw [← List.map_id xs]
      rfl
    rw [e5] at h4
    exact h4
  · rw [e2]
    exact h2
/-- a test by truth, named -/
def tTru (K : PySem.W.Frag) (ta : TE) : TT := fun σ H Q => ta σ H fun x H' => ∃ k, TruV K x H' k ∧ Q k H'
theorem pt_tru {a : Expr} {ta : TE} (ha : PE X a ta) (he : ∀ whole, isTrue a X.env whole = (do let v ← whole; standAt a.pos; holding [v] (truthy v))) : PT X a (tTru X.K ta) := pt_truth ha he
theorem pe_strL {x : Str} {j pos} (l : List Nat) (h : x = S l) : PE X (.Constant (.str x) j pos) (tC (vS l)) := by
  have e := pe_str (X := X) (x := x) (j := j) (pos := pos)
  rw [h] at e ⊢
  exact e
end

/-! ## steps -/
section
variable {σ : L2.St} {H : Hp} {Q : VK} {D : Ends} {ta tb te tc : TE} {t u : TS} {g : TG} {v : V} {K : PySem.W.Frag}
theorem w_seq (h : t { D with nx := u D } σ H) : tSeq t u D σ H := h
theorem w_asg (h : te σ H (fun x H1 => g x σ H1 D.nx)) : tAsg te g D σ H := h
theorem w_gName {i : Nat} {Q : L2.St → Hp → Prop} (h : Q (σ.set i (some v)) H) : gName i v σ H Q := h
theorem w_gTup {K : PySem.W.Frag} {n : Nat} {ts : TGs} {a : Addr} {xs : List V} {Q : L2.St → Hp → Prop} (h1 : SqT K H a xs) (h2 : xs.length = n) (h : ts xs σ H Q) : gTup K n ts (.ref a) σ H Q := ⟨a, xs, rfl, h1, h2, h⟩
theorem w_gCons {t : TG} {u : TGs} {vs : List V} {Q : L2.St → Hp → Prop} (h : t v σ H fun σ' H' => u vs σ' H' Q) : gCons t u (v :: vs) σ H Q := ⟨v, vs, rfl, h⟩
theorem w_gNil {Q : L2.St → Hp → Prop} (h : Q σ H) : gNil [] σ H Q := ⟨rfl, h⟩
theorem w_gSub {to ti : TE} {ts : TSet} {Q : L2.St → Hp → Prop} (h : to σ H fun o H1 => ti σ H1 fun i H2 => ts o i v H2 fun H3 => Q σ H3) : gSub to ti ts v σ H Q := h
theorem w_var {i : Nat} (h1 : σ[i]? = some (some v)) (h : Q v H) : tVar i σ H Q := ⟨v, h1, h⟩
theorem w_c (h : Q v H) : tC v σ H Q := h
theorem w_op {r : R2} (h : ta σ H fun x H1 => tb σ H1 fun y H2 => r x y H2 Q) : tOp r ta tb σ H Q := h
theorem w_un {r : V → Hp → VK → Prop} (h : ta σ H fun x H1 => r x H1 Q) : tUn r ta σ H Q := h
theorem w_nil {Q : List V → Hp → Prop} (h : Q [] H) : tNil σ H Q := h
theorem w_cons {tr : TA} {Q : List V → Hp → Prop} (h : ta σ H fun x H1 => tr σ H1 fun xs H2 => Q (x :: xs) H2) : tCons ta tr σ H Q := h
theorem w_CB {r : List V → Hp → VK → Prop} {t : TA} (h : t σ H fun vs H1 => r vs H1 Q) : tCB r t σ H Q := h
theorem w_call {sp : Sp} {E : XK} {t : TA} (h : t σ H fun vs H1 => sp vs H1 Q E) : tCall sp [] E t σ H Q := by
  have e : (fun vs H1 => sp (vs ++ []) H1 Q E) = (fun vs H1 => sp vs H1 Q E) := by
    funext vs H1
    rw [List.append_nil]
  show t σ H fun vs H1 => sp (vs ++ []) H1 Q E
  rw [e]
  exact h
theorem w_drop (h : te σ H fun _ H1 => D.nx σ H1) : tDrop te D σ H := h
theorem w_ret (h : te σ H D.rt) : tRet te D σ H := h
theorem w_retN (h : D.rt .non H) : tRetN D σ H := h
theorem w_next (h : D.nx σ H) : tNext D σ H := h
theorem w_brk (h : D.bk σ H) : tBreak D σ H := h
theorem w_cont (h : D.ct σ H) : tCont D σ H := h
theorem w_if {c : TT} (h : c σ H fun b H1 => if b = true then t D σ H1 else u D σ H1) : tIfS c t u D σ H := h
def blQ (x : V) (H : Hp) (Q : Bool → Hp → Prop) : Prop := ∃ k, x = .bl k ∧ Q k H
theorem w_test {Q : Bool → Hp → Prop} (h : te σ H fun x H' => blQ x H' Q) : tTest te σ H Q := h
theorem w_tB {Q : Bool → Hp → Prop} (h : te σ H fun x H' => blQ x H' Q) : tB te σ H Q := h
theorem w_exbl {k : Bool} {Q : Bool → Hp → Prop} (h : Q k H) : blQ (.bl k) H Q := ⟨k, rfl, h⟩
theorem w_and {t u : TT} {Q : Bool → Hp → Prop} (h : t σ H fun c H1 => if c = true then u σ H1 Q else Q false H1) : tAnd t u σ H Q := h
theorem w_or {t u : TT} {Q : Bool → Hp → Prop} (h : t σ H fun c H1 => if c = true then Q true H1 else u σ H1 Q) : tOr t u σ H Q := h
theorem w_not {t : TT} {Q : Bool → Hp → Prop} (h : t σ H fun c H1 => Q (!c) H1) : tNot t σ H Q := h
theorem w_andV (h : ta σ H fun x H1 => blQ x H1 fun c H1 => if c = true then tb σ H1 Q else Q (.bl false) H1) : tAndV ta tb σ H Q := h
theorem w_orV (h : ta σ H fun x H1 => blQ x H1 fun c H1 => if c = true then Q (.bl true) H1 else tb σ H1 Q) : tOrV ta tb σ H Q := h
theorem w_notV (h : ta σ H fun x H1 => blQ x H1 fun c H1 => Q (.bl (!c)) H1) : tNotV ta σ H Q := h
theorem w_ifE {c : TT} (h : c σ H fun b H1 => if b = true then ta σ H1 Q else tb σ H1 Q) : tIf c ta tb σ H Q := h
def newQ (f : List V → HO) (xs : List V) (H : Hp) (Q : VK) : Prop := xs.length ≤ sizeLine ∧ ∀ p, H p = none → Q (.ref p) (upd H p (f xs))
theorem w_tup {t : TA} (h : t σ H fun xs H1 => newQ .tup xs H1 Q) : tTup t σ H Q := h
theorem w_lst {t : TA} (h : t σ H fun xs H1 => newQ .lst xs H1 Q) : tLst t σ H Q := h
theorem w_new {xs : List V} {f : List V → HO} (hl : xs.length ≤ 16777216) (h : ∀ p, H p = none → Q (.ref p) (upd H p (f xs))) : newQ f xs H Q := ⟨by rw [line_eq]; exact hl, h⟩
theorem w_sl {r : V → Option Int → Option Int → Hp → VK → Prop} {tl th : TO} (h : te σ H fun x H1 => tl σ H1 fun l H2 => th σ H2 fun u H3 => r x l u H3 Q) : tSl r te tl th σ H Q := h
theorem w_nopart {Q : Option Int → Hp → Prop} (h : Q none H) : tNoPart σ H Q := h
def intQ (x : V) (H : Hp) (Q : Option Int → Hp → Prop) : Prop := ∃ i, x = .int i ∧ Q (some i) H
theorem w_part {Q : Option Int → Hp → Prop} (h : te σ H fun x H1 => intQ x H1 Q) : tPart te σ H Q := h
theorem w_exint {i : Int} {Q : Option Int → Hp → Prop} (h : Q (some i) H) : intQ (.int i) H Q := ⟨i, rfl, h⟩
def tyQ (K : PySem.W.Frag) (T : String) (x : V) (H : Hp) (P : Prop) : Prop := tyV K T x H ∧ P
theorem w_BM {T : String} {r : V → List V → Hp → VK → Prop} {to : TE} {t : TA} (h : to σ H fun x H1 => tyQ K T x H1 (t σ H1 fun xs H2 => r x xs H2 Q)) : tBM K T r to t σ H Q := h
theorem w_BM0 {T : String} {r : V → List V → Hp → VK → Prop} {to : TE} (h : to σ H fun x H1 => tyQ K T x H1 (r x [] H1 Q)) : tBM0 K T r to σ H Q := h
theorem w_tyL {a : Addr} {xs : List V} {P : Prop} (h1 : H a = some (.lst xs)) (h : P) : tyQ K "list" (.ref a) H P := ⟨.inl ⟨rfl, _, SqL.of h1⟩, h⟩
def strQ (x : V) (P : Prop) : Prop := (∃ a, x = .str a) ∧ P
theorem w_M0 {r : V → List V → Hp → VK → Prop} (h : ta σ H fun x H1 => strQ x (r x [] H1 Q)) : tM0 r ta σ H Q := h
theorem w_M1 {r : V → List V → Hp → VK → Prop} (h : ta σ H fun x H1 => strQ x (te σ H1 fun y H2 => r x [y] H2 Q)) : tM1 r ta te σ H Q := h
theorem w_exstr {l : List Nat} {P : Prop} (h : P) : strQ (vS l) P := ⟨⟨_, rfl⟩, h⟩
def truQ (K : PySem.W.Frag) (x : V) (H : Hp) (Q : Bool → Hp → Prop) : Prop := ∃ k, TruV K x H k ∧ Q k H
theorem w_tru {Q : Bool → Hp → Prop} (h : ta σ H fun x H' => truQ K x H' Q) : tTru K ta σ H Q := h
theorem w_truL {a : Addr} {xs : List V} {Q : Bool → Hp → Prop} (h1 : SqL K H a xs) (h : Q (!xs.isEmpty) H) : truQ K (.ref a) H Q := ⟨_, .inl ⟨xs, h1, rfl⟩, h⟩
theorem w_truT {a : Addr} {xs : List V} {Q : Bool → Hp → Prop} (h1 : SqT K H a xs) (h : Q (!xs.isEmpty) H) : truQ K (.ref a) H Q := ⟨_, .inr (.inl ⟨xs, h1, rfl⟩), h⟩
theorem w_truS {l : List Nat} {Q : Bool → Hp → Prop} (h1 : l.length ≤ 16777216) (h : Q (!l.isEmpty) H) : truQ K (vS l) H Q := by
  refine ⟨_, ⟨by rw [S_len, line_eq]; exact h1, rfl⟩, ?_⟩
  rw [S_len]
  cases l with
  | nil => exact h
  | cons a r =>
    have e : (((a :: r).length : Int) != 0) = true := by
      simp
      omega
    rw [e]
    exact h
theorem w_rI0 {f : Int → Int → V} {i j : Int} (h : Q (f i j) H) : rI0 f (.int i) (.int j) H Q := ⟨i, j, rfl, rfl, h⟩
theorem w_rI {C : Int → Int → Prop} {f : Int → Int → V} {i j : Int} (hc : C i j) (h : Q (f i j) H) : rI C f (.int i) (.int j) H Q := ⟨i, j, rfl, rfl, hc, h⟩
theorem w_rU {f : Int → V} {i : Int} (h : Q (f i) H) : rU f (.int i) H Q := ⟨i, rfl, h⟩
theorem w_eqI {i j : Int} (h : Q (.bl (decide (i = j))) H) : zEqI (.int i) (.int j) H Q := ⟨i, j, rfl, rfl, h⟩
theorem w_neI {i j : Int} (h : Q (.bl (!decide (i = j))) H) : zNeI (.int i) (.int j) H Q := ⟨i, j, rfl, rfl, h⟩
theorem w_eqS {a b : List Nat} (h : Q (.bl (decide (a = b))) H) : zEqS (vS a) (vS b) H Q := ⟨a, b, rfl, rfl, h⟩
theorem w_neS {a b : List Nat} (h : Q (.bl (!decide (a = b))) H) : zNeS (vS a) (vS b) H Q := ⟨a, b, rfl, rfl, h⟩
theorem w_addS {a b : List Nat} (hc : a.length + b.length ≤ 16777216) (h : Q (vS (a ++ b)) H) : zAddS (vS a) (vS b) H Q := ⟨a, b, rfl, rfl, hc, h⟩
theorem w_mulS {a : List Nat} {n : Int} (h1 : -100000000 ≤ n) (h2 : n ≤ 100000000) (hc : a.length * n.toNat ≤ 16777216) (h : Q (vS (rep n a)) H) : zMulS (vS a) (.int n) H Q := ⟨a, n, rfl, rfl, h1, h2, hc, h⟩
theorem w_lenS {l : List Nat} (hc : l.length ≤ 16777216) (h : Q (.int l.length) H) : zLenS [vS l] H Q := ⟨l, rfl, hc, h⟩
theorem w_lenL {a : Addr} {xs : List V} (h1 : SqL K H a xs) (h : Q (.int xs.length) H) : zLenQ K [.ref a] H Q := ⟨a, xs, rfl, .inl h1, h⟩
theorem w_lenT {a : Addr} {xs : List V} (h1 : SqT K H a xs) (h : Q (.int xs.length) H) : zLenQ K [.ref a] H Q := ⟨a, xs, rfl, .inr h1, h⟩
theorem w_int {i : Int} (h : Q (.int i) H) : zInt1 [.int i] H Q := ⟨i, rfl, h⟩
theorem w_abs {i : Int} (h : Q (.int (i.natAbs : Int)) H) : zAbs [.int i] H Q := ⟨i, rfl, h⟩
theorem w_min {i j : Int} (h : Q (.int (min i j)) H) : zMin2 [.int i, .int j] H Q := ⟨i, j, rfl, h⟩
theorem w_ixS {l : List Nat} {i : Int} {c : Nat} (h1 : l.length ≤ 16777216) (h2 : atI l i = some c) (h : Q (vS [c]) H) : zIxS (vS l) (.int i) H Q := ⟨l, i, c, rfl, rfl, h1, h2, h⟩
theorem w_ixL {a : Addr} {xs : List V} {i : Int} (h1 : SqL K H a xs) (h2 : atI xs i = some v) (h : Q v H) : rIxL K (.ref a) (.int i) H Q := ⟨a, xs, i, v, rfl, rfl, h1, h2, h⟩
theorem w_ixT {a : Addr} {xs : List V} {i : Int} (h1 : SqT K H a xs) (h2 : atI xs i = some v) (h : Q v H) : rIxT K (.ref a) (.int i) H Q := ⟨a, xs, i, v, rfl, rfl, h1, h2, h⟩
theorem w_slS {l : List Nat} {lo hi : Option Int} (h1 : l.length ≤ 16777216) (h : Q (vS (cutL l lo hi)) H) : zSlS (vS l) lo hi H Q := ⟨l, rfl, h1, h⟩
theorem w_slL {a : Addr} {xs : List V} {lo hi : Option Int} (h1 : SqL K H a xs) (h : ∀ p, H p = none → Q (.ref p) (upd H p (.lst (cutL xs lo hi)))) : rSlL K (.ref a) lo hi H Q := ⟨a, xs, rfl, h1, h⟩
theorem w_append {l : Addr} {xs : List V} (h1 : H l = some (.lst xs)) (h2 : xs.length < 16777216) (h : Q .non (upd H l (.lst (xs ++ [v])))) : rAppend (.ref l) [v] H Q := ⟨l, xs, v, rfl, rfl, h1, by rw [line_eq]; exact h2, h⟩
theorem w_pop {l : Addr} {xs : List V} (h1 : H l = some (.lst (xs ++ [v]))) (h : Q v (upd H l (.lst xs))) : rPop (.ref l) [] H Q := ⟨l, xs ++ [v], v, rfl, rfl, h1, by simp, by rw [List.dropLast_concat]; exact h⟩
theorem w_setL {p : Addr} {xs : List V} {k : Int} {j : Nat} {Q : Hp → Prop} (h1 : H p = some (.lst xs)) (h2 : ixN xs.length k = some j) (h : Q (upd H p (.lst (xs.set j v)))) : rSetL (.ref p) (.int k) v H Q := ⟨p, xs, k, j, rfl, rfl, h1, h2, h⟩
theorem w_tupOfL {a : Addr} {xs : List V} (h1 : SqL K H a xs) (h : ∀ l, H l = none → Q (.ref l) (upd H l (.tup xs))) : ∃ p ys, [V.ref a] = [.ref p] ∧ ((SqL K H p ys ∧ ∀ l, H l = none → Q (.ref l) (upd H l (.tup ys))) ∨ (SqT K H p ys ∧ Q (.ref p) H)) := ⟨a, xs, rfl, .inl ⟨h1, h⟩⟩
theorem w_join0 {p : Addr} {ys : List (List Nat)} (h1 : SqL K H p (ys.map vS)) (h2 : ys.flatten.length ≤ 16777216) (h : Q (vS ys.flatten) H) : zJoin0 K (vS []) [.ref p] H Q := ⟨p, ys, rfl, rfl, .inl h1, h2, h⟩
theorem w_ninL {a : List Nat} {p : Addr} {bs : List (List Nat)} (h1 : SqL K H p (bs.map vS)) (h : Q (.bl (!decide (a ∈ bs))) H) : zNinL K (vS a) (.ref p) H Q := ⟨a, p, bs, rfl, rfl, .inl h1, h⟩
theorem w_sortedT {p : Addr} {xs : List (List Nat)} (h1 : SqL K H p (xs.map vS)) (h2 : xs.length < 64) (h : ∀ (ys : List (List Nat)) (p : Addr), ys.Perm xs → sortedS (ys.map S) = true → H p = none → Q (.ref p) (upd H p (.lst (ys.map vS)))) : zSortedS K [.ref p] H Q := ⟨p, xs, rfl, h1, h2, h⟩
theorem st_is {t : TS} {σ' : L2.St} (e : σ' = σ) (h : t D σ H) : t D σ' H := e ▸ h
end
/-! ## heaps -/
section
variable {H H' : Hp} {a b p l : Addr} {o u : HO} {xs : List V} {K : PySem.W.Frag}
theorem get_ne (h : b ≠ a) (e : H b = some u) : upd H a o b = some u := by rw [upd_ne h]; exact e
theorem none_ne (h : b ≠ a) (e : H b = none) : upd H a o b = none := by rw [upd_ne h]; exact e
theorem none_of_upd (h : upd H a o b = none) : H b = none ∧ b ≠ a := by
  by_cases e : b = a
  · subst e
    rw [upd_same] at h
    cases h
  · rw [upd_ne e] at h
    exact ⟨h, e⟩
theorem same_new (h : H p = none) : Same H (upd H p o) := fun b x e => by
  rw [upd_ne (ne_of_none e h)]
  exact e
/-- tuples (and what is locked) stay: every step of a run keeps them -/
def Tx (H H' : Hp) : Prop := ∀ b o, ((∃ xs, o = .tup xs) ∨ ∃ ob u, o = .frz ob u) → H b = some o → H' b = some o
theorem Tx.refl (H : Hp) : Tx H H := fun _ _ _ h => h
theorem Tx.trans {H1 H2 H3 : Hp} (x : Tx H1 H2) (y : Tx H2 H3) : Tx H1 H3 := fun b o k h => y b o k (x b o k h)
theorem Tx.of_same (s : Same H H') : Tx H H' := fun b o _ h => s b o h
theorem Tx.new {H0 : Hp} (x : Tx H0 H) (h : H p = none) : Tx H0 (upd H p o) := fun b u k e => by
  have e2 := x b u k e
  rw [upd_ne (ne_of_none e2 h)]
  exact e2
theorem Tx.lst {H0 : Hp} (x : Tx H0 H) (h : H l = some (.lst xs)) : Tx H0 (upd H l o) := fun b u k e => by
  have e2 := x b u k e
  have n : b ≠ l := by
    refine ne_of e2 h ?_
    rcases k with ⟨_, rfl⟩ | ⟨_, _, rfl⟩ <;> intro z <;> cases z
  rw [upd_ne n]
  exact e2
theorem Tx.sqT (x : Tx H H') (h : SqT K H a xs) : SqT K H' a xs := by
  rcases h with (h | ⟨o, h⟩) | h
  · exact .inl (.inl (x _ _ (.inl ⟨_, rfl⟩) h))
  · exact .inl (.inr ⟨o, x _ _ (.inr ⟨_, _, rfl⟩) h⟩)
  · exact .inr h
/-- all but the lists at p and g stays -/
def Kp (p g : Addr) (H H' : Hp) : Prop := ∀ b o, b ≠ p → b ≠ g → H b = some o → H' b = some o
theorem Kp.refl (p g : Addr) (H : Hp) : Kp p g H H := fun _ _ _ _ h => h
theorem Kp.trans {p g : Addr} {H1 H2 H3 : Hp} (x : Kp p g H1 H2) (y : Kp p g H2 H3) : Kp p g H1 H3 := fun b o k1 k2 h => y b o k1 k2 (x b o k1 k2 h)
theorem Kp.of_same {p g : Addr} (s : Same H H') : Kp p g H H' := fun b o _ _ h => s b o h
end

/-! ## a def that may be called -/
structure Cal (P : Program) (w : World) (K : PySem.W.Frag) (mg : Str → Option Value) (base : Heap) (k : Nat) (x : Str) (sp : Sp) : Prop where
  ex : ∃ (f : Addr) (fd : FuncData) (ps : List Str), FnOk P w K mg base CX0 k f fd ps sp ∧ mg x = some (.ref f) ∧ PySem.W.keepIn K (.ref f) = true ∧ Binds K fd ps []
theorem pe_c {X : Cx} {k j : Nat} {x : Str} {sp : Sp} {p pos : Pos} {e : Expr} {es : List Expr} {t : TA} (c : Cal X.prog X.w X.K X.mg X.base k x sp) (hr : Room j X.A) (hk : k ≤ j) (hg : Gl X x) (ha : PA X (e :: es) t)
    (hdb : (x == ("__debug__" : Str)) = false := by decide) (he : starEach (e :: es) X.env = (false, eval e X.env) :: starEach es X.env := by rfl) (hpl : (backTo pos (starEach es X.env)).any (·.1) = false := by rfl) :
    PE X (.Call (.Name x p) (e :: es) [] pos) (tCall sp [] E0 t) := by
  obtain ⟨f, fd, ps, F, hm, kp, b⟩ := c.ex
  exact pe_call F (hr.mono hk) hg hm kp b .nil pass0 ha hdb he hpl
/-- where the def stands -/
structure At (K : PySem.W.Frag) (mg : Str → Option Value) (x : Str) (st : Stmt) : Prop where
  ex : ∃ (f : Addr) (fd : FuncData), Fun K x x st f fd ∧ mg x = some (.ref f) ∧ ∀ ps : List Str, (∀ (kV doc pm : Value) (an : Option Addr) (cdv ct : Value) (us : List Value), us.length = ps.length → bindArgs (PySem.W.fnOf x x (defArgs st) (defBody st) (defScope st) .none kV doc pm an cdv ct) ⟨us, []⟩ = pure (ps.zip us)) → Binds K fd ps []
theorem At.cal {P : Program} {w : World} {K : PySem.W.Frag} {mg : Str → Option Value} {base : Heap} {x : Str} {st : Stmt} {N ps : List Str} {k : Nat} {sp : Sp} (F : At K mg x st) (S : FnScope N ps (defScope st)) (len : ∀ vs H Q E, sp vs H Q E → vs.length = ps.length)
    (hb : ∀ (kV doc pm : Value) (an : Option Addr) (cdv ct : Value) (us : List Value), us.length = ps.length → bindArgs (PySem.W.fnOf x x (defArgs st) (defBody st) (defScope st) .none kV doc pm an cdv ct) ⟨us, []⟩ = pure (ps.zip us))
    (hbody : ∀ (f : Addr) (cdv : Value) (A : Around) (outer : List Env) (s : Shared) (H : Hp) (vs : List V) (Q : VK) (E : XK), Room k (A.deeper (envOfC x (defScope st) s.heap.objs.size f cdv)) → sp vs H Q E →
      ∃ t, PSs (cxOf CX0 P w K mg base N x (defScope st) f cdv A outer s H E).nox (defBody st) t ∧ t { nx := fun _ H' => Q .non H', rt := Q } (start N vs) H) : Cal P w K mg base (k + 1) x sp := by
  obtain ⟨f, fd, F, hm, b⟩ := F.ex
  exact ⟨f, fd, ps, F.ok S len (hbody f), hm, F.kp, b ps hb⟩
section
variable {X : Cx}
def zTupL (K : PySem.W.Frag) : List V → Hp → VK → Prop := fun vs H Q => ∃ p ys, vs = [.ref p] ∧ SqL K H p ys ∧ ∀ l, H l = none → Q (.ref l) (upd H l (.tup ys))
theorem call_tupL : CallR X (.type "tuple") (zTupL X.K) := by
  intro pins s σ H xs us Q I r h
  obtain ⟨p, ys, rfl, hs, q⟩ := h
  exact call_tuple_of pins s σ H _ us Q I r ⟨p, ys, rfl, .inl ⟨hs, q⟩⟩
end
theorem w_tupL {H : Hp} {Q : VK} {K : PySem.W.Frag} {a : Addr} {xs : List V} (h1 : SqL K H a xs) (h : ∀ l, H l = none → Q (.ref l) (upd H l (.tup xs))) : zTupL K [.ref a] H Q := ⟨a, xs, rfl, h1, h⟩
abbrev kOf {K : PySem.W.Frag} {h : Heap} (_ : K.In h) : PySem.W.Frag := K
theorem at_mk {K : PySem.W.Frag} {h : Heap} {mg : Str → Option Value} {x : Str} {st : Stmt} {f : Addr} {oc : Value} {od an : Option Addr} {sl : Array (Option Value)} {kV dc pm cd ct : Value} (X : K.In h) (G : h.Ns mainGlobals mg)
    (a : PySem.W.nsIn K mainGlobals x = some (some (.ref f))) (l : K.lookup f = some ⟨oc, od, .func (PySem.W.fnOf x x (defArgs st) (defBody st) (defScope st) .none kV dc pm an cd ct), sl⟩) (c : PySem.W.codeIn K cd x = true) (k : PySem.W.keepIn K (.ref f) = true) : At K mg x st :=
  ⟨f, _, fun_mk l c k, PySem.W.mg_of X G a, fun _ h => (fun_mk l c k).binds h⟩
theorem fin_of {lw : PySem.W.OpenLaw} {w : World} {K : PySem.W.Frag} {h : Heap} {mg : Str → Option Value} {st : Stmt} {fa f : Addr} {oc : Value} {od an : Option Addr} {sl : Array (Option Value)} {kV dc pm cd ct : Value} {n : Nat} {sp : Sp} (X : K.In h) (G : h.Ns mainGlobals mg) (hfa : mg "law" = some (.ref fa))
    (a : PySem.W.nsIn K mainGlobals "law" = some (some (.ref f))) (l : K.lookup f = some ⟨oc, od, .func (PySem.W.fnOf "law" "law" (defArgs st) (defBody st) (defScope st) .none kV dc pm an cd ct), sl⟩) (c : PySem.W.codeIn K cd "law" = true) (k : PySem.W.keepIn K (.ref f) = true)
    (hb : ∀ (s : Shared) (v : Value), BindsTo s (PySem.W.fnOf "law" "law" (defArgs st) (defBody st) (defScope st) .none kV dc pm an cd ct) ⟨[v], []⟩ [("script", v)]) (hok : ∀ (f : Addr) (fd : FuncData), Fun K "law" "law" st f fd → ∀ base : Heap, FnOk lw.prog w K mg base CX0 n f fd ["script"] sp) :
    ∃ fd : FuncData, (∀ (s : Shared) (v : Value), BindsTo s fd ⟨[v], []⟩ [("script", v)]) ∧ ∀ base : Heap, K.In base → base.Ns mainGlobals mg → FnOk lw.prog w K mg base CX0 n fa fd ["script"] sp := by
  have e := hfa.symm.trans (PySem.W.mg_of X G a)
  cases e
  exact ⟨_, hb, fun base _ _ => hok _ _ (fun_mk l c k) base⟩
/-- the pool of draws: [int, the list of great numbers] -/
structure Pool (p g : Addr) (H : Hp) : Prop where
  ne : p ≠ g
  ex : ∃ (x : Int) (ns : List Int), H p = some (.lst [.int x, .ref g]) ∧ H g = some (.lst (ns.map V.int)) ∧ ns.length ≤ 1000
theorem Pool.new {p g c : Addr} {H : Hp} {o : HO} (h : Pool p g H) (hc : H c = none) : Pool p g (upd H c o) := by
  obtain ⟨ne, x, ns, h1, h2, h3⟩ := h
  exact ⟨ne, x, ns, get_ne (ne_of_none h1 hc) h1, get_ne (ne_of_none h2 hc) h2, h3⟩
theorem Pool.same {p g : Addr} {H H' : Hp} (h : Pool p g H) (s : Same H H') : Pool p g H' := by
  obtain ⟨ne, x, ns, h1, h2, h3⟩ := h
  exact ⟨ne, x, ns, s _ _ h1, s _ _ h2, h3⟩
theorem Pool.lst {p g c : Addr} {H : Hp} {o : HO} (h : Pool p g H) (h1 : c ≠ p) (h2 : c ≠ g) : Pool p g (upd H c o) := by
  obtain ⟨ne, x, ns, e1, e2, h3⟩ := h
  exact ⟨ne, x, ns, get_ne h1.symm e1, get_ne h2.symm e2, h3⟩
theorem Pool.ne1 {p g c : Addr} {H : Hp} (h : Pool p g H) (hc : H c = none) : c ≠ p := by
  obtain ⟨ne, x, ns, e1, e2, h3⟩ := h
  exact (ne_of_none e1 hc).symm
theorem Pool.ne2 {p g c : Addr} {H : Hp} (h : Pool p g H) (hc : H c = none) : c ≠ g := by
  obtain ⟨ne, x, ns, e1, e2, h3⟩ := h
  exact (ne_of_none e2 hc).symm
theorem Kp.tx {p g : Addr} {H H' : Hp} (k : Kp p g H H') (h : Pool p g H) : Tx H H' := fun b o t e => by
  obtain ⟨ne, x, ns, e1, e2, h3⟩ := h
  refine k b o ?_ ?_ e
  · refine ne_of e e1 ?_
    rcases t with ⟨_, rfl⟩ | ⟨_, _, rfl⟩ <;> intro z <;> cases z
  · refine ne_of e e2 ?_
    rcases t with ⟨_, rfl⟩ | ⟨_, _, rfl⟩ <;> intro z <;> cases z

/-! ## data without a heap -/
inductive D where
  | non | bl (b : Bool) | int (i : Int) | str (l : List Nat) | tup (ds : List D)
mutual
def Rep (K : PySem.W.Frag) (H : Hp) : D → V → Prop
  | .non, v => v = .non
  | .bl b, v => v = .bl b
  | .int i, v => v = .int i
  | .str l, v => v = vS l
  | .tup ds, v => ∃ a xs, v = .ref a ∧ SqT K H a xs ∧ Reps K H ds xs
def Reps (K : PySem.W.Frag) (H : Hp) : List D → List V → Prop
  | [], xs => xs = []
  | d :: ds, xs => ∃ x r, xs = x :: r ∧ Rep K H d x ∧ Reps K H ds r
end
mutual
def D.size : D → Nat
  | .tup ds => 1 + D.sizes ds
  | _ => 1
def D.sizes : List D → Nat
  | [] => 0
  | d :: ds => d.size + D.sizes ds
end
section
variable {K : PySem.W.Frag} {H H' : Hp}
mutual
theorem Rep.tx (x : Tx H H') : ∀ (d : D) (v : V), Rep K H d v → Rep K H' d v
  | .non, v, h => by unfold Rep at h ⊢; exact h
  | .bl b, v, h => by unfold Rep at h ⊢; exact h
  | .int i, v, h => by unfold Rep at h ⊢; exact h
  | .str l, v, h => by unfold Rep at h ⊢; exact h
  | .tup ds, v, h => by
    unfold Rep at h ⊢
    obtain ⟨a, xs, e, h1, h2⟩ := h
    exact ⟨a, xs, e, x.sqT h1, Reps.tx x ds xs h2⟩
theorem Reps.tx (x : Tx H H') : ∀ (ds : List D) (xs : List V), Reps K H ds xs → Reps K H' ds xs
  | [], xs, h => by unfold Reps at h ⊢; exact h
  | d :: ds, xs, h => by
    unfold Reps at h ⊢
    obtain ⟨y, r, e, h1, h2⟩ := h
    exact ⟨y, r, e, Rep.tx x d y h1, Reps.tx x ds r h2⟩
end
theorem Reps.len : ∀ {ds : List D} {xs : List V}, Reps K H ds xs → xs.length = ds.length
  | [], xs, h => by unfold Reps at h; rw [h]; rfl
  | d :: ds, xs, h => by
    unfold Reps at h
    obtain ⟨y, r, rfl, _, h2⟩ := h
    rw [List.length_cons, List.length_cons, Reps.len h2]
theorem Reps.get : ∀ {ds : List D} {xs : List V} {i : Nat} {d : D}, Reps K H ds xs → ds[i]? = some d → ∃ x, xs[i]? = some x ∧ Rep K H d x
  | [], _, _, _, _, e => by simp at e
  | d :: ds, xs, 0, d', h, e => by
    unfold Reps at h
    obtain ⟨y, r, rfl, h1, _⟩ := h
    have e' : d = d' := Option.some.inj e
    subst e'
    exact ⟨y, rfl, h1⟩
  | d :: ds, xs, i + 1, d', h, e => by
    unfold Reps at h
    obtain ⟨y, r, rfl, _, h2⟩ := h
    exact Reps.get (i := i) h2 e
theorem Reps.snoc : ∀ {ds : List D} {xs : List V} {d : D} {x : V}, Reps K H ds xs → Rep K H d x → Reps K H (ds ++ [d]) (xs ++ [x])
  | [], xs, d, x, h, hx => by
    unfold Reps at h
    subst h
    show Reps K H [d] [x]
    unfold Reps
    exact ⟨x, [], rfl, hx, by unfold Reps; rfl⟩
  | d0 :: ds, xs, d, x, h, hx => by
    unfold Reps at h
    obtain ⟨y, r, rfl, h1, h2⟩ := h
    show Reps K H (d0 :: (ds ++ [d])) (y :: (r ++ [x]))
    unfold Reps
    exact ⟨y, r ++ [x], rfl, h1, Reps.snoc h2 hx⟩
theorem Reps.drop : ∀ {ds : List D} {xs : List V} (n : Nat), Reps K H ds xs → Reps K H (ds.drop n) (xs.drop n)
  | ds, xs, 0, h => h
  | [], xs, n + 1, h => by
    unfold Reps at h
    subst h
    show Reps K H [] []
    unfold Reps
    rfl
  | d :: ds, xs, n + 1, h => by
    unfold Reps at h
    obtain ⟨y, r, rfl, h1, h2⟩ := h
    exact Reps.drop n h2
theorem Reps.take : ∀ {ds : List D} {xs : List V} (n : Nat), Reps K H ds xs → Reps K H (ds.take n) (xs.take n)
  | ds, xs, 0, h => by
    show Reps K H [] []
    unfold Reps
    rfl
  | [], xs, n + 1, h => by
    unfold Reps at h
    subst h
    show Reps K H [] []
    unfold Reps
    rfl
  | d :: ds, xs, n + 1, h => by
    unfold Reps at h
    obtain ⟨y, r, rfl, h1, h2⟩ := h
    show Reps K H (d :: ds.take n) (y :: r.take n)
    unfold Reps
    exact ⟨y, _, rfl, h1, Reps.take n h2⟩
theorem Reps.nil : Reps K H [] [] := by unfold Reps; rfl
theorem Reps.cons {d : D} {ds : List D} {x : V} {xs : List V} (h1 : Rep K H d x) (h2 : Reps K H ds xs) : Reps K H (d :: ds) (x :: xs) := by
  unfold Reps
  exact ⟨x, xs, rfl, h1, h2⟩
theorem Rep.str {l : List Nat} : Rep K H (.str l) (vS l) := by unfold Rep; rfl
theorem Rep.int {i : Int} : Rep K H (.int i) (.int i) := by unfold Rep; rfl
theorem Rep.bl {b : Bool} : Rep K H (.bl b) (.bl b) := by unfold Rep; rfl
theorem Rep.non : Rep K H .non .non := by unfold Rep; rfl
theorem Rep.tup {a : Addr} {ds : List D} {xs : List V} (h : SqT K H a xs) (h2 : Reps K H ds xs) : Rep K H (.tup ds) (.ref a) := by
  unfold Rep
  exact ⟨a, xs, rfl, h, h2⟩
theorem rep_str {l : List Nat} {v : V} (h : Rep K H (.str l) v) : v = vS l := by unfold Rep at h; exact h
theorem rep_int {l : Int} {v : V} (h : Rep K H (.int l) v) : v = .int l := by unfold Rep at h; exact h
theorem rep_tup {ds : List D} {v : V} (h : Rep K H (.tup ds) v) : ∃ a xs, v = .ref a ∧ SqT K H a xs ∧ Reps K H ds xs := by unfold Rep at h; exact h
theorem reps_cons {d : D} {ds : List D} {xs : List V} (h : Reps K H (d :: ds) xs) : ∃ x r, xs = x :: r ∧ Rep K H d x ∧ Reps K H ds r := by unfold Reps at h; exact h
theorem reps_nil {xs : List V} (h : Reps K H [] xs) : xs = [] := by unfold Reps at h; exact h
/-! ## isinstance -/
def tyN : D → String
  | .non => "NoneType" | .bl _ => "bool" | .int _ => "int" | .str _ => "str" | .tup _ => "tuple"
theorem tyX_T {a : Addr} {xs : List V} (h : SqT K H a xs) : TyX K H (.ref a) (.type "tuple") := by
  rcases h with (h | ⟨o, h⟩) | h
  · exact .base (.tup h)
  · exact .fTuple h
  · obtain ⟨o, its, n, e, c, _⟩ := h
    exact .kTuple e c
theorem rep_ty {d : D} {v : V} (h : Rep K H d v) : TyX K H v (.type (tyN d)) := by
  cases d with
  | non => unfold Rep at h; subst h; exact .base .non
  | bl b => unfold Rep at h; subst h; exact .base (.bl b)
  | int i => unfold Rep at h; subst h; exact .base (.int i)
  | str l => unfold Rep at h; subst h; exact .base (.str _)
  | tup ds =>
    obtain ⟨a, xs, rfl, h1, _⟩ := rep_tup h
    exact tyX_T h1
theorem w_isi {x : V} {n t : String} {b : Bool} {Q : VK} (ty : TyX K H x (.type t)) (h : kitB t n = some b) (q : Q (.bl b) H) : rIsi K [x, .ty n] H Q := ⟨x, .ty n, .type t, .type n, b, rfl, .ty n, ty, kit_ty h, q⟩
end
theorem w_eqR {x y : V} {H : Hp} {Q : VK} (h1 : scal x y = true) (h : Q (.bl (decide (x = y))) H) : rEq x y H Q := ⟨h1, h⟩
theorem w_ixAT {K : PySem.W.Frag} {H : Hp} {Q : VK} {a : Addr} {xs : List V} {i : Int} {v : V} (h1 : SqT K H a xs) (h2 : atI xs i = some v) (h : Q v H) : rIx K (.ref a) (.int i) H Q := .inr (.inl ⟨a, xs, i, v, rfl, rfl, h1, h2, h⟩)
def isNQ (x y : V) (H : Hp) (Q : VK) : Prop := y = .non ∧ Q (.bl (decide (x = .non))) H
def notNQ (x y : V) (H : Hp) (Q : VK) : Prop := y = .non ∧ Q (.bl (!decide (x = .non))) H
theorem op_isN2 {X : Cx} : OpR X (compareOp .Is) isNQ := op_isN
theorem op_notN2 {X : Cx} : OpR X (compareOp .IsNot) notNQ := op_notN
theorem w_isN {x : V} {H : Hp} {Q : VK} (h : Q (.bl (decide (x = .non))) H) : isNQ x .non H Q := ⟨rfl, h⟩
theorem w_notN {x : V} {H : Hp} {Q : VK} (h : Q (.bl (!decide (x = .non))) H) : notNQ x .non H Q := ⟨rfl, h⟩
theorem ite_nt {A B : Prop} (h : B) : if (!true) = true then A else B := h
theorem ite_nf {A B : Prop} (h : A) : if (!false) = true then A else B := h
theorem Same.new' {H H' : Hp} {p : Addr} {o : HO} (s : Same H H') (h : H' p = none) : Same H (upd H' p o) := s.trans (same_new h)
theorem Same.mut {H H' : Hp} {p : Addr} {o : HO} (s : Same H H') (h : H p = none) : Same H (upd H' p o) := fun b u e => get_ne (ne_of_none e h) (s b u e)
def tCut (t u : TS) : TS := fun D σ H => ∃ Mid : L2.St → Hp → Prop, t { D with nx := Mid } σ H ∧ ∀ σ' H', Mid σ' H' → u D σ' H'
theorem pss_cut {X : Cx} {st : Stmt} {rest : List Stmt} {t u : TS} (h1 : PS X st t) (h2 : PSs X rest u) : PSs X (st :: rest) (tCut t u) := by
  refine ⟨fun pins s σ H D I h => ?_⟩
  obtain ⟨Mid, hm, hu⟩ := h
  refine wpAny_execs_cons (thn (h1.run pins s σ H { D with nx := Mid } I hm) fun f s1 q => ?_)
  cases f with
  | next =>
    obtain ⟨σ', H', I', q⟩ := q
    exact h2.run pins s1 σ' H' D I' (hu σ' H' q)
  | ret v => exact q
  | brk => exact q
  | cont => exact q
theorem w_cut {t u : TS} {D : Ends} {σ : L2.St} {H : Hp} (Mid : L2.St → Hp → Prop) (h1 : t { D with nx := Mid } σ H) (h2 : ∀ σ' H', Mid σ' H' → u D σ' H') : tCut t u D σ H := ⟨Mid, h1, h2⟩
theorem cut_whole {xs : List V} {lo hi : Option Int} (h : HT.sIx xs.length 0 lo = 0 ∧ HT.sIx xs.length xs.length hi = xs.length) : cutL xs lo hi = xs := by
  unfold cutL
  rw [h.1, h.2, List.drop_zero, Nat.sub_zero, List.take_length]
theorem w_slA {K : PySem.W.Frag} {H : Hp} {Q : VK} {a : Addr} {xs : List V} {lo hi : Option Int} (h1 : SqT K H a xs) (h : ∀ p H', Same H H' → SqT K H' p (cutL xs lo hi) → Q (.ref p) H') : rSlA K (.ref a) lo hi H Q := by
  refine ⟨a, xs, rfl, h1, fun hw => ?_, fun hw p hp => ?_⟩
  · exact h a H (Same.refl _) (by rw [cut_whole hw]; exact h1)
  · exact h p _ (same_new hp) (SqT.of upd_same)
/-! ## for -/
section
variable {K : PySem.W.Frag} {ta : TA} {tl : TE} {g : TG} {tb : TS} {D : Ends} {σ : L2.St} {H : Hp}
abbrev Turns (J : It) (g : TG) (tb : TS) (D : Ends) (σ : L2.St) (H : Hp) : Prop := ∃ W : Nat → Nat → L2.St → Hp → Prop, (∃ m, W 0 m σ H) ∧ ∀ i m σ H, W i m σ H →
  (J.stop i H ∧ D.nx σ H) ∨ (J.go i H ∧ ∃ N : L2.St → Hp → Prop, (∀ σ' H', N σ' H' → ∃ m', m' < m ∧ W (i + 1) m' σ' H') ∧ ∀ x H', J.yld i H x H' → g x σ H' fun σ2 H2 => tb { D with nx := N, ct := N, bk := D.nx } σ2 H2)
def rng1Q (g : TG) (tb : TS) (D : Ends) (σ : L2.St) (vs : List V) (H : Hp) : Prop := ∃ j : Int, vs = [.int j] ∧ -(2 ^ 62) ≤ j ∧ j < 2 ^ 62 ∧ Turns (Itr 0 j.toNat) g tb D σ H
theorem w_for1 (h : ta σ H fun vs H1 => rng1Q g tb D σ vs H1) : tFor (iRng1 ta) g tb D σ H := h
theorem w_rng1 {j : Int} (h1 : -1000000000 ≤ j) (h2 : j ≤ 1000000000) (Pv : Nat → L2.St → Hp → Prop) (p0 : Pv 0 σ H)
    (ps : ∀ (i : Nat) (σ : L2.St) (H : Hp), (i : Int) < j → Pv i σ H → g (.int (i : Int)) σ H fun σ2 H2 => tb { D with nx := Pv (i + 1), ct := Pv (i + 1), bk := D.nx } σ2 H2) (pd : ∀ σ H, Pv j.toNat σ H → D.nx σ H) : rng1Q g tb D σ [.int j] H := by
  refine ⟨j, rfl, by omega, by omega, for_range (lo := 0) (n := j.toNat) Pv p0 (fun i σ H hi p => ?_) pd⟩
  have e0 : (0 : Int) + (i : Int) = (i : Int) := Int.zero_add _
  rw [e0]
  exact ps i σ H (by omega) p
def rng2Q (g : TG) (tb : TS) (D : Ends) (σ : L2.St) (vs : List V) (H : Hp) : Prop := ∃ i j : Int, vs = [.int i, .int j] ∧ (-(2 ^ 62) ≤ i ∧ i < 2 ^ 62 ∧ -(2 ^ 62) ≤ j ∧ j < 2 ^ 62) ∧ Turns (Itr i (j - i).toNat) g tb D σ H
theorem w_for2 (h : ta σ H fun vs H1 => rng2Q g tb D σ vs H1) : tFor (iRng2 ta) g tb D σ H := h
theorem w_rng2 {lo hi : Int} (h0 : -1000000000 ≤ lo ∧ lo ≤ 1000000000) (h1 : -1000000000 ≤ hi ∧ hi ≤ 1000000000) (Pv : Nat → L2.St → Hp → Prop) (p0 : Pv 0 σ H)
    (ps : ∀ (i : Nat) (σ : L2.St) (H : Hp), lo + (i : Int) < hi → Pv i σ H → g (.int (lo + (i : Int))) σ H fun σ2 H2 => tb { D with nx := Pv (i + 1), ct := Pv (i + 1), bk := D.nx } σ2 H2) (pd : ∀ σ H, Pv (hi - lo).toNat σ H → D.nx σ H) : rng2Q g tb D σ [.int lo, .int hi] H :=
  ⟨lo, hi, rfl, by omega, for_range (lo := lo) (n := (hi - lo).toNat) Pv p0 (fun i σ H hi p => ps i σ H (by omega) p) pd⟩
def lstQ (K : PySem.W.Frag) (g : TG) (tb : TS) (D : Ends) (σ : L2.St) (x : V) (H : Hp) : Prop := ∃ a, x = .ref a ∧ (∃ xs, SqL K H a xs) ∧ Turns (Itl K a) g tb D σ H
theorem w_forL (h : tl σ H fun x H1 => lstQ K g tb D σ x H1) : tFor (iList K tl) g tb D σ H := h
theorem w_lstQ {a : Addr} {xs : List V} (hx : SqL K H a xs) (Pv : Nat → L2.St → Hp → Prop) (h0 : Pv 0 σ H) (hl : ∀ i σ H, i ≤ xs.length → Pv i σ H → SqL K H a xs)
    (hs : ∀ i x σ H, xs[i]? = some x → Pv i σ H → g x σ H fun σ2 H2 => tb { D with nx := Pv (i + 1), ct := Pv (i + 1), bk := D.nx } σ2 H2) (hd : ∀ σ H, Pv xs.length σ H → D.nx σ H) : lstQ K g tb D σ (.ref a) H :=
  ⟨a, rfl, ⟨xs, hx⟩, for_list (xs := xs) Pv h0 hl hs hd⟩
def tupQ (K : PySem.W.Frag) (g : TG) (tb : TS) (D : Ends) (σ : L2.St) (x : V) (H : Hp) : Prop := ∃ a, x = .ref a ∧ (∃ xs, SqT K H a xs) ∧ Turns (Itt K a) g tb D σ H
theorem w_forT (h : tl σ H fun x H1 => tupQ K g tb D σ x H1) : tFor (iTup K tl) g tb D σ H := h
theorem w_tupQ {a : Addr} {xs : List V} (hx : SqT K H a xs) (Pv : Nat → L2.St → Hp → Prop) (h0 : Pv 0 σ H) (hl : ∀ i σ H, i ≤ xs.length → Pv i σ H → SqT K H a xs)
    (hs : ∀ i x σ H, xs[i]? = some x → Pv i σ H → g x σ H fun σ2 H2 => tb { D with nx := Pv (i + 1), ct := Pv (i + 1), bk := D.nx } σ2 H2) (hd : ∀ σ H, Pv xs.length σ H → D.nx σ H) : tupQ K g tb D σ (.ref a) H :=
  ⟨a, rfl, ⟨xs, hx⟩, for_tup (xs := xs) Pv h0 hl hs hd⟩
def enuQ (g : TG) (tb : TS) (D : Ends) (σ : L2.St) (vs : List V) (H : Hp) : Prop := ∃ x, vs = [.str x] ∧ Turns (Ites x) g tb D σ H
theorem w_forE (h : ta σ H fun vs H1 => enuQ g tb D σ vs H1) : tFor (iEnumS ta) g tb D σ H := h
theorem w_enuQ {l : List Nat} (Pv : Nat → L2.St → Hp → Prop) (h0 : Pv 0 σ H)
    (hs : ∀ i c σ H T, l[i]? = some c → Pv i σ H → H T = none → g (.ref T) σ (upd H T (.tup [.int (i : Nat), vS [c]])) fun σ2 H2 => tb { D with nx := Pv (i + 1), ct := Pv (i + 1), bk := D.nx } σ2 H2) (hd : ∀ σ H, Pv l.length σ H → D.nx σ H) : enuQ g tb D σ [vS l] H :=
  ⟨S l, rfl, for_enumS Pv h0 hs hd⟩
theorem w_while {c : TT} (W : Nat → L2.St → Hp → Prop) (m0 : Nat) (h0 : W m0 σ H)
    (hs : ∀ m σ H, W m σ H → c σ H fun b H1 => if b = true then tb { D with nx := fun σ' H' => ∃ m', m' < m ∧ W m' σ' H', ct := fun σ' H' => ∃ m', m' < m ∧ W m' σ' H', bk := D.nx } σ H1 else D.nx σ H1)
    (mono : ∀ σ H Q Q', (∀ b H1, Q b H1 → Q' b H1) → c σ H Q → c σ H Q') : tWhile c tb D σ H := by
  refine ⟨W, ⟨m0, h0⟩, fun m σ H w => ?_⟩
  refine mono σ H _ _ (fun b H1 q => ?_) (hs m σ H w)
  cases b with
  | true => exact ⟨_, fun σ' H' n => n, q⟩
  | false => exact q
end
section
variable {K : PySem.W.Frag} {ta : TA} {tl te : TE} {g : TG} {tt : TT} {vs : List Nat} {σ : L2.St} {H : Hp} {Q : VK}
def accQ (Dl : Addr) (y : V) (H : Hp) (P : Hp → Prop) : Prop := ∃ acc, H Dl = some (.lst acc) ∧ acc.length < sizeLine ∧ P (upd H Dl (.lst (acc ++ [y])))
theorem w_acc {Dl : Addr} {y : V} {P : Hp → Prop} {acc : List V} (h1 : H Dl = some (.lst acc)) (h2 : acc.length < 16777216) (h : P (upd H Dl (.lst (acc ++ [y])))) : accQ Dl y H P := ⟨acc, h1, by rw [line_eq]; exact h2, h⟩
theorem w_yes {Q : Bool → Hp → Prop} (h : Q true H) : tYes σ H Q := h
abbrev LcTurn (g : TG) (tt : TT) (te : TE) (vs : List Nat) (σ : L2.St) (x : V) (H : Hp) (Dl : Addr) (P : Hp → Prop) : Prop := g x (wipe σ vs) H fun σ2 H2 => wipe σ2 vs = wipe σ vs ∧ tt σ2 H2 fun b H3 => if b = true then te σ2 H3 fun y H4 => accQ Dl y H4 P else P H3
def lcTQ (K : PySem.W.Frag) (g : TG) (tt : TT) (te : TE) (vs : List Nat) (σ : L2.St) (x : V) (H : Hp) (Q : VK) : Prop := tLc (iTup K (tC x)) g tt te vs σ H Q
theorem w_lcT (h : tl σ H fun x H1 => lcTQ K g tt te vs σ x H1 Q) : tLc (iTup K tl) g tt te vs σ H Q := h
theorem w_lcTQ {a : Addr} {xs : List V} (hx : SqT K H a xs) (Pv : Addr → Nat → Hp → Prop) (h0 : ∀ Dl, H Dl = none → Pv Dl 0 (upd H Dl (.lst []))) (hl : ∀ Dl i H', i ≤ xs.length → Pv Dl i H' → SqT K H' a xs)
    (hs : ∀ Dl i x H', H Dl = none → xs[i]? = some x → Pv Dl i H' → LcTurn g tt te vs σ x H' Dl (Pv Dl (i + 1))) (hd : ∀ Dl H', H Dl = none → Pv Dl xs.length H' → Q (.ref Dl) H') : lcTQ K g tt te vs σ (.ref a) H Q :=
  ⟨a, rfl, ⟨xs, hx⟩, fun Dl hD => lc_tup (xs := xs) (Pv Dl) (h0 Dl hD) (hl Dl) (fun i x H' hi p => hs Dl i x H' hD hi p) (fun H' p => hd Dl H' hD p)⟩
def lcLQ (K : PySem.W.Frag) (g : TG) (tt : TT) (te : TE) (vs : List Nat) (σ : L2.St) (x : V) (H : Hp) (Q : VK) : Prop := tLc (iList K (tC x)) g tt te vs σ H Q
theorem w_lcL (h : tl σ H fun x H1 => lcLQ K g tt te vs σ x H1 Q) : tLc (iList K tl) g tt te vs σ H Q := h
theorem w_lcLQ {a : Addr} {xs : List V} (hx : SqL K H a xs) (Pv : Addr → Nat → Hp → Prop) (h0 : ∀ Dl, H Dl = none → Pv Dl 0 (upd H Dl (.lst []))) (hl : ∀ Dl i H', i ≤ xs.length → Pv Dl i H' → SqL K H' a xs)
    (hs : ∀ Dl i x H', H Dl = none → xs[i]? = some x → Pv Dl i H' → LcTurn g tt te vs σ x H' Dl (Pv Dl (i + 1))) (hd : ∀ Dl H', H Dl = none → Pv Dl xs.length H' → Q (.ref Dl) H') : lcLQ K g tt te vs σ (.ref a) H Q :=
  ⟨a, rfl, ⟨xs, hx⟩, fun Dl hD => lc_list (xs := xs) (Pv Dl) (h0 Dl hD) (hl Dl) (fun i x H' hi p => hs Dl i x H' hD hi p) (fun H' p => hd Dl H' hD p)⟩
end
theorem kn_bool : kitB "NoneType" "bool" = some false := by decide +kernel
theorem kb_bool : kitB "bool" "bool" = some true := by decide +kernel
theorem ki_bool : kitB "int" "bool" = some false := by decide +kernel
theorem ks_bool : kitB "str" "bool" = some false := by decide +kernel
theorem kt_bool : kitB "tuple" "bool" = some false := by decide +kernel
theorem kb_int : kitB "bool" "int" = some true := by decide +kernel
theorem ki_int : kitB "int" "int" = some true := by decide +kernel
theorem ks_int : kitB "str" "int" = some false := by decide +kernel
theorem kt_int : kitB "tuple" "int" = some false := by decide +kernel
theorem kb_str : kitB "bool" "str" = some false := by decide +kernel
theorem ki_str : kitB "int" "str" = some false := by decide +kernel
theorem ks_str : kitB "str" "str" = some true := by decide +kernel
theorem kt_str : kitB "tuple" "str" = some false := by decide +kernel
theorem kt_tuple : kitB "tuple" "tuple" = some true := by decide +kernel
theorem kt_list : kitB "tuple" "list" = some false := by decide +kernel
/-! ## rows and marks, in lists -/
abbrev Row := List (List Nat × List Nat)
def pairD (p : List Nat × List Nat) : D := .tup [.str p.1, .str p.2]
def rowD (r : Row) : D := .tup (r.map pairD)
/-- the place behind the last seam of the first i marks -/
def begAt (marks : List Nat) : Nat → Nat
  | 0 => 0
  | i + 1 => if marks[i]? = some 46 then begAt marks i else i + 1
def rowAt (text marks : List Nat) : Nat → Row
  | 0 => []
  | i + 1 => if marks[i]? = some 46 then rowAt text marks i else rowAt text marks i ++ [(cutL text (some (begAt marks i : Nat)) (some ((i : Nat) + 1 : Int)), [marks.getD i 0])]
theorem begAt_s (marks : List Nat) (i : Nat) : begAt marks (i + 1) = if marks[i]? = some 46 then begAt marks i else i + 1 := rfl
theorem rowAt_s (text marks : List Nat) (i : Nat) : rowAt text marks (i + 1) = if marks[i]? = some 46 then rowAt text marks i else rowAt text marks i ++ [(cutL text (some (begAt marks i : Nat)) (some ((i : Nat) + 1 : Int)), [marks.getD i 0])] := rfl
theorem begAt_le (marks : List Nat) : ∀ i, begAt marks i ≤ i
  | 0 => Nat.le_refl _
  | i + 1 => by
    rw [begAt_s]
    have := begAt_le marks i
    split <;> omega
theorem rowAt_len (text marks : List Nat) : ∀ i, (rowAt text marks i).length ≤ i
  | 0 => Nat.le_refl _
  | i + 1 => by
    rw [rowAt_s]
    have := rowAt_len text marks i
    split
    · omega
    · rw [List.length_append, List.length_singleton]
      omega
def rowText (r : Row) : List Nat := (r.map (·.1)).flatten
def pieceMarks (p : List Nat × List Nat) : List Nat := rep ((p.1.length : Int) - 1) [46] ++ p.2
def rowMarks (r : Row) : List Nat := (r.map pieceMarks).flatten
theorem cutL_nn {α : Type} (l : List α) {a b : Nat} (h1 : a ≤ b) (h2 : b ≤ l.length) : cutL l (some (a : Int)) (some (b : Int)) = (l.drop a).take (b - a) := by
  unfold cutL
  rw [HT.sIx_nat, HT.sIx_nat, Nat.min_eq_left h2, Nat.min_eq_left (by omega)]
theorem cutL_from {α : Type} (l : List α) {a : Nat} (h1 : a ≤ l.length) : cutL l (some (a : Int)) none = l.drop a := by
  unfold cutL
  rw [HT.sIx_nat, HT.sIx_none, Nat.min_eq_left h1]
  exact List.take_of_length_le (by rw [List.length_drop]; exact Nat.le_refl _)
theorem cutL_to {α : Type} (l : List α) (a : Nat) : cutL l none (some (a : Int)) = l.take a := by
  unfold cutL
  rw [HT.sIx_nat, HT.sIx_none, List.drop_zero, Nat.sub_zero]
  by_cases h : a ≤ l.length
  · rw [Nat.min_eq_left h]
  · rw [Nat.min_eq_right (by omega), List.take_of_length_le (Nat.le_refl _), List.take_of_length_le (by omega)]
theorem cutL_le {α : Type} (l : List α) (lo hi : Option Int) : (cutL l lo hi).length ≤ l.length := by
  unfold cutL
  rw [List.length_take, List.length_drop]
  omega
theorem rowAt_pieces (text marks : List Nat) : ∀ i, ∀ p ∈ rowAt text marks i, p.1.length ≤ text.length ∧ p.2.length = 1
  | 0 => fun p h => nomatch h
  | i + 1 => fun p h => by
    have ih := rowAt_pieces text marks i
    rw [rowAt_s] at h
    split at h
    · exact ih p h
    · rcases List.mem_append.mp h with h | h
      · exact ih p h
      · rw [List.mem_singleton.mp h]
        exact ⟨cutL_le _ _ _, rfl⟩
theorem rowText_at {text marks : List Nat} (hl : text.length = marks.length) : ∀ i, i ≤ marks.length → rowText (rowAt text marks i) = text.take (begAt marks i)
  | 0, _ => rfl
  | i + 1, hi => by
    have ih := rowText_at hl i (by omega)
    rw [rowAt_s, begAt_s]
    split
    · exact ih
    · unfold rowText at ih ⊢
      rw [List.map_append, List.flatten_append, ih]
      have hb := begAt_le marks i
      have e : ((i : Nat) + 1 : Int) = ((i + 1 : Nat) : Int) := by omega
      rw [e]
      simp only [List.map_cons, List.map_nil, List.flatten_cons, List.flatten_nil, List.append_nil]
      rw [cutL_nn text (by omega) (by omega)]
      have e2 : i + 1 = begAt marks i + (i + 1 - begAt marks i) := by omega
      conv => rhs; rw [e2]
      rw [List.take_add]
theorem dots_between (marks : List Nat) : ∀ i, i ≤ marks.length → (marks.take i).drop (begAt marks i) = List.replicate (i - begAt marks i) 46
  | 0, _ => by simp
  | i + 1, hi => by
    have ih := dots_between marks i (by omega)
    have hb := begAt_le marks i
    rw [begAt_s]
    split
    · rename_i h
      have hlt : i < marks.length := by omega
      have e : marks[i] = 46 := by
        rw [List.getElem?_eq_getElem hlt] at h
        exact Option.some.inj h
      rw [List.take_succ_eq_append_getElem hlt, List.drop_append_of_le_length (by rw [List.length_take]; omega), ih, e]
      have e2 : i + 1 - begAt marks i = (i - begAt marks i) + 1 := by omega
      rw [e2, List.replicate_succ']
    · rw [List.drop_of_length_le (by rw [List.length_take]; omega)]
      simp
theorem rep_one (n : Int) (c : Nat) : rep n [c] = List.replicate n.toNat c := by
  unfold rep
  induction n.toNat with
  | zero => rfl
  | succ k ih => rw [List.replicate_succ, List.flatten_cons, ih, List.replicate_succ]; rfl
theorem rowMarks_at {text marks : List Nat} (hl : text.length = marks.length) : ∀ i, i ≤ marks.length → rowMarks (rowAt text marks i) = marks.take (begAt marks i)
  | 0, _ => rfl
  | i + 1, hi => by
    have ih := rowMarks_at hl i (by omega)
    have hb := begAt_le marks i
    have hd := dots_between marks i (by omega)
    have hlt : i < marks.length := by omega
    rw [rowAt_s, begAt_s]
    split
    · exact ih
    · unfold rowMarks at ih ⊢
      rw [List.map_append, List.flatten_append, ih]
      have e : ((i : Nat) + 1 : Int) = ((i + 1 : Nat) : Int) := by omega
      rw [e]
      simp only [List.map_cons, List.map_nil, List.flatten_cons, List.flatten_nil, List.append_nil]
      rw [cutL_nn text (by omega) (by omega)]
      unfold pieceMarks
      have e3 : ((((text.drop (begAt marks i)).take (i + 1 - begAt marks i)).length : Int) - 1) = ((i - begAt marks i : Nat) : Int) := by
        rw [List.length_take, List.length_drop]
        omega
      simp only
      rw [e3, rep_one, Int.toNat_natCast, ← hd]
      have e4 : marks.getD i 0 = marks[i] := by simp [List.getD, hlt]
      rw [e4, List.take_succ_eq_append_getElem hlt, ← List.append_assoc]
      congr 1
      have e5 : marks.take i = (marks.take i).take (begAt marks i) ++ (marks.take i).drop (begAt marks i) := (List.take_append_drop _ _).symm
      conv => rhs; rw [e5]
      congr 1
      rw [List.take_take, Nat.min_eq_left hb]
/-- a row whose pieces are not empty, whose names are one sign that is no dot -/
def GoodRow (r : Row) : Prop := ∀ p ∈ r, p.1 ≠ [] ∧ ∃ c, p.2 = [c] ∧ c ≠ 46
theorem pieceMarks_len {p : List Nat × List Nat} (h : p.1 ≠ [] ∧ ∃ c, p.2 = [c] ∧ c ≠ 46) : (pieceMarks p).length = p.1.length := by
  obtain ⟨h1, c, e, _⟩ := h
  unfold pieceMarks
  rw [e, rep_one, List.length_append, List.length_replicate, List.length_singleton]
  have : 0 < p.1.length := List.length_pos_iff.mpr h1
  omega
theorem rowMarks_len : ∀ {r : Row}, GoodRow r → (rowMarks r).length = (rowText r).length
  | [], _ => rfl
  | p :: r, h => by
    have h1 := pieceMarks_len (h p List.mem_cons_self)
    have ih := rowMarks_len (r := r) fun q hq => h q (List.mem_cons_of_mem _ hq)
    unfold rowMarks rowText at ih ⊢
    simp only [List.map_cons, List.flatten_cons, List.length_append]
    rw [h1, ih]
theorem begAt_app (a b : List Nat) : ∀ i, i ≤ a.length → begAt (a ++ b) i = begAt a i
  | 0, _ => rfl
  | i + 1, h => by
    rw [begAt_s]
    rw [begAt_s, List.getElem?_append_left (by omega), begAt_app a b i (by omega)]
theorem rowAt_app (t1 t2 a b : List Nat) (hl : t1.length = a.length) : ∀ i, i ≤ a.length → rowAt (t1 ++ t2) (a ++ b) i = rowAt t1 a i
  | 0, _ => rfl
  | i + 1, h => by
    have hb := begAt_le a i
    rw [rowAt_s]
    rw [rowAt_s, List.getElem?_append_left (by omega), rowAt_app t1 t2 a b hl i (by omega), begAt_app a b i (by omega)]
    have e : ((i : Nat) + 1 : Int) = ((i + 1 : Nat) : Int) := by omega
    rw [e, cutL_nn _ (by omega) (by rw [List.length_append]; omega), cutL_nn _ (by omega) (by omega)]
    rw [List.drop_append_of_le_length (by omega), List.take_append_of_le_length (by rw [List.length_drop]; omega)]
    have e2 : (a ++ b).getD i 0 = a.getD i 0 := by
      simp only [List.getD]
      rw [List.getElem?_append_left (by omega)]
    rw [e2]
theorem begAt_dots {marks : List Nat} {i : Nat} : ∀ k, (∀ j, i ≤ j → j < i + k → marks[j]? = some 46) → begAt marks (i + k) = begAt marks i
  | 0, _ => rfl
  | k + 1, h => by
    rw [← Nat.add_assoc, begAt_s, if_pos (h (i + k) (by omega) (by omega))]
    exact begAt_dots k fun j h1 h2 => h j h1 (by omega)
theorem rowAt_dots {text marks : List Nat} {i : Nat} : ∀ k, (∀ j, i ≤ j → j < i + k → marks[j]? = some 46) → rowAt text marks (i + k) = rowAt text marks i
  | 0, _ => rfl
  | k + 1, h => by
    rw [← Nat.add_assoc, rowAt_s, if_pos (h (i + k) (by omega) (by omega))]
    exact rowAt_dots k fun j h1 h2 => h j h1 (by omega)
theorem snoc_ind {α : Type} {P : List α → Prop} (h0 : P []) (hs : ∀ l a, P l → P (l ++ [a])) (l : List α) : P l := by
  have h : ∀ m : List α, P m.reverse := by
    intro m
    induction m with
    | nil => exact h0
    | cons a m ih => rw [List.reverse_cons]; exact hs _ _ ih
  have := h l.reverse
  rw [List.reverse_reverse] at this
  exact this
theorem rowMarks_snoc (r : Row) (p : List Nat × List Nat) : rowMarks (r ++ [p]) = rowMarks r ++ pieceMarks p := by
  unfold rowMarks
  simp
theorem rowText_snoc (r : Row) (p : List Nat × List Nat) : rowText (r ++ [p]) = rowText r ++ p.1 := by
  unfold rowText
  simp
/-- a row's own text by its own marks gives the row, all of it in pieces -/
theorem rowAt_row (r : Row) : GoodRow r → begAt (rowMarks r) (rowMarks r).length = (rowMarks r).length ∧ rowAt (rowText r) (rowMarks r) (rowMarks r).length = r := by
  refine snoc_ind (P := fun r => GoodRow r → begAt (rowMarks r) (rowMarks r).length = (rowMarks r).length ∧ rowAt (rowText r) (rowMarks r) (rowMarks r).length = r) ?_ ?_ r
  · intro _
    exact ⟨rfl, rfl⟩
  · intro r p ih hg
    have hr : GoodRow r := fun q hq => hg q (List.mem_append_left _ hq)
    have hp := hg p (List.mem_append_right _ (List.mem_singleton.mpr rfl))
    obtain ⟨i1, i2⟩ := ih hr
    have hl := rowMarks_len hr
    have hpl := pieceMarks_len hp
    obtain ⟨hp1, c, hc, hc46⟩ := hp
    have hpos : 0 < p.1.length := List.length_pos_iff.mpr hp1
    rw [rowMarks_snoc, rowText_snoc]
    have epm : pieceMarks p = List.replicate (p.1.length - 1) 46 ++ [c] := by
      unfold pieceMarks
      rw [rep_one, hc]
      have e : ((p.1.length : Int) - 1).toNat = p.1.length - 1 := by omega
      rw [e]
    have hdots : ∀ j, (rowMarks r).length ≤ j → j < (rowMarks r).length + (p.1.length - 1) → (rowMarks r ++ pieceMarks p)[j]? = some 46 := by
      intro j h1 h2
      rw [List.getElem?_append_right h1, epm, List.getElem?_append_left (by rw [List.length_replicate]; omega), List.getElem?_replicate]
      rw [if_pos (by omega)]
    have hlast : (rowMarks r ++ pieceMarks p)[(rowMarks r).length + (p.1.length - 1)]? = some c := by
      rw [List.getElem?_append_right (by omega), epm, List.getElem?_append_right (by rw [List.length_replicate]; omega)]
      rw [List.length_replicate]
      have e : (rowMarks r).length + (p.1.length - 1) - (rowMarks r).length - (p.1.length - 1) = 0 := by omega
      rw [e]
      rfl
    have elen : (rowMarks r ++ pieceMarks p).length = (rowMarks r).length + (p.1.length - 1) + 1 := by
      rw [List.length_append, hpl]
      omega
    have b1 : begAt (rowMarks r ++ pieceMarks p) ((rowMarks r).length + (p.1.length - 1)) = (rowMarks r).length := by
      rw [begAt_dots _ hdots, begAt_app _ _ _ (Nat.le_refl _), i1]
    have r1 : rowAt (rowText r ++ p.1) (rowMarks r ++ pieceMarks p) ((rowMarks r).length + (p.1.length - 1)) = r := by
      rw [rowAt_dots _ hdots, rowAt_app _ _ _ _ hl.symm _ (Nat.le_refl _), i2]
    have hne : ¬ (rowMarks r ++ pieceMarks p)[(rowMarks r).length + (p.1.length - 1)]? = some 46 := by
      rw [hlast]
      intro e
      exact hc46 (Option.some.inj e)
    rw [elen, begAt_s, rowAt_s, if_neg hne, if_neg hne, b1, r1]
    refine ⟨rfl, ?_⟩
    congr 1
    have e : (((rowMarks r).length + (p.1.length - 1) : Nat) : Int) + 1 = (((rowMarks r).length + (p.1.length - 1) + 1 : Nat) : Int) := by omega
    rw [e, cutL_nn _ (by omega) (by rw [List.length_append]; omega)]
    have e2 : (rowMarks r ++ pieceMarks p).getD ((rowMarks r).length + (p.1.length - 1)) 0 = c := by
      rw [List.getD_eq_getElem?_getD, hlast]
      rfl
    rw [e2, hl, List.drop_append_of_le_length (Nat.le_refl _), List.drop_length, List.nil_append, List.take_of_length_le (by omega), ← hc]
theorem atI_in {l : List Nat} {r : Int} (h0 : 0 ≤ r) (h1 : r < (l.length : Int)) : ∃ c, atI l r = some c := by
  obtain ⟨k, e⟩ := Int.eq_ofNat_of_zero_le h0
  have hk : k < l.length := by omega
  rw [e]
  exact ⟨l[k], atI_nat (List.getElem?_eq_getElem hk)⟩
/-- enough copies, cut to m -/
theorem cut_rep_len {l : List Nat} {m : Int} (hl : 1 ≤ l.length) (hm : 0 ≤ m) : ((cutL (rep (m / (l.length : Int) + 1) l) none (some m)).length : Int) = m := by
  obtain ⟨k, e⟩ := Int.eq_ofNat_of_zero_le hm
  rw [e, cutL_to, List.length_take, rep_len]
  have h1 : ((k : Int) / (l.length : Int) + 1).toNat = k / l.length + 1 := by
    have h3 : ((k : Int) / (l.length : Int)) = ((k / l.length : Nat) : Int) := rfl
    rw [h3]
    generalize k / l.length = d
    omega
  rw [h1]
  have h2 : k < (k / l.length + 1) * l.length := by
    rw [Nat.mul_comm]
    exact Nat.lt_mul_div_succ k (by omega)
  omega
theorem rowText_len : ∀ (r : Row), (∀ q ∈ r, q.1.length ≤ 40) → (rowText r).length ≤ 40 * r.length
  | [], _ => Nat.le_refl _
  | p :: r, h => by
    have ih := rowText_len r fun q hq => h q (List.mem_cons_of_mem _ hq)
    have h1 := h p List.mem_cons_self
    unfold rowText at ih ⊢
    simp only [List.map_cons, List.flatten_cons, List.length_append, List.length_cons]
    omega
theorem cutL_from2 {α : Type} (l : List α) (a : Nat) : cutL l (some (a : Int)) none = l.drop a := by
  by_cases h : a ≤ l.length
  · exact cutL_from l h
  · unfold cutL
    rw [HT.sIx_nat, HT.sIx_none, Nat.min_eq_right (by omega), List.drop_length, List.drop_of_length_le (by omega), List.take_nil]
theorem rowD_size : ∀ (r : Row), (rowD r).size ≤ 1 + 3 * r.length
  | [] => Nat.le_refl _
  | p :: r => by
    have ih := rowD_size r
    unfold rowD at ih ⊢
    simp only [List.map_cons, D.size, D.sizes, pairD, List.length_cons] at ih ⊢
    omega
theorem begAt_last {e : List Nat} {n c : Nat} (h : e[n]? = some c) (hc : c ≠ 46) : begAt e (n + 1) = n + 1 := by
  rw [begAt_s, if_neg]
  rw [h]
  intro z
  exact hc (Option.some.inj z)
theorem begAt_dot {e : List Nat} {n : Nat} (h : e[n]? = some 46) : begAt e (n + 1) < n + 1 := by
  rw [begAt_s, if_pos h]
  have := begAt_le e n
  omega
theorem rowAt_grow (text e : List Nat) {j : Nat} (h : ¬ e[j]? = some 46) : ∀ n, j < n → rowAt text e n ≠ []
  | 0, hn => absurd hn (Nat.not_lt_zero _)
  | n + 1, hn => by
    rw [rowAt_s]
    by_cases hj : j = n
    · subst hj
      rw [if_neg h]
      simp
    · have ih := rowAt_grow text e h n (by omega)
      split
      · exact ih
      · intro z
        exact ih (List.append_eq_nil_iff.mp z).1
def topS (i : Nat) : Stmt := PySem.Challenge.pw_seamsight_k02_rows_and_marks.main.body.getD i (.Pass ⟨0, 0, 0, 0⟩)
/-! ## the promises -/
def spDraw : Sp := fun vs H Q _ => ∃ (p g : Addr) (m : Int), vs = [.ref p, .int m] ∧ Pool p g H ∧ 0 < m ∧ m < 1073741824 ∧ ∀ H' r, 0 ≤ r → r < m → Pool p g H' → Kp p g H H' → Q (.int r) H'
def spSame (K : PySem.W.Frag) : Sp := fun vs H Q _ => ∃ (x y : V) (d : D), vs = [x, y] ∧ Rep K H d x ∧ Rep K H d y ∧ d.size ≤ 10000000 ∧ ∀ H', Same H H' → Q (.bl true) H'
def spRowOf (K : PySem.W.Frag) : Sp := fun vs H Q _ => ∃ (text marks : List Nat), vs = [vS text, vS marks] ∧ text.length ≤ 100000 ∧ marks.length ≤ 100000 ∧ ∀ H' v, Same H H' → Rep K H' (rowD (rowAt text marks marks.length)) v → Q v H'
def spLooseOf : Sp := fun vs H Q _ => ∃ (text marks : List Nat), vs = [vS text, vS marks] ∧ text.length = marks.length ∧ marks.length ≤ 100000 ∧ ∀ H', Same H H' → Q (vS (text.drop (begAt marks marks.length))) H'
def spRowMarks (K : PySem.W.Frag) : Sp := fun vs H Q _ => ∃ (x : V) (r : Row), vs = [x] ∧ Rep K H (rowD r) x ∧ r.length ≤ 100000 ∧ (rowMarks r).length ≤ 100000 ∧ (∀ p ∈ r, p.1.length ≤ 100000 ∧ p.2.length ≤ 100000) ∧ ∀ H', Same H H' → Q (vS (rowMarks r)) H'
def spRowText (K : PySem.W.Frag) : Sp := fun vs H Q _ => ∃ (x : V) (r : Row), vs = [x] ∧ Rep K H (rowD r) x ∧ r.length ≤ 100000 ∧ (rowText r).length ≤ 100000 ∧ ∀ H', Same H H' → Q (vS (rowText r)) H'
def spPool (K : PySem.W.Frag) : Sp := fun vs H Q _ => ∃ (a : Addr) (ns : List Int), vs = [.ref a] ∧ SqL K H a (ns.map V.int) ∧ ns.length ≤ 63 ∧ ∀ H' p g, H p = none → H g = none → Pool p g H' → Same H H' → Q (.ref p) H'
def spLetters : Sp := fun vs H Q _ => ∃ (p g : Addr) (m : Int), vs = [.ref p, .int m] ∧ Pool p g H ∧ 1 ≤ m ∧ m ≤ 6 ∧ ∀ H' l, l ≠ [] → l.length ≤ 6 → Pool p g H' → Kp p g H H' → Q (vS l) H'
def spText : Sp := fun vs H Q _ => ∃ (p g : Addr) (l : List Nat) (m : Int), vs = [.ref p, vS l, .int m] ∧ Pool p g H ∧ l ≠ [] ∧ l.length ≤ 6 ∧ -10 ≤ m ∧ m ≤ 2000 ∧
  ∀ H' t, (m < 0 → 1 ≤ t.length ∧ t.length ≤ 40) → (0 ≤ m → (t.length : Int) = m) → Pool p g H' → Kp p g H H' → Q (vS t) H'
def spNames : Sp := fun vs H Q _ => ∃ (p g : Addr), vs = [.ref p] ∧ Pool p g H ∧ ∀ H' l, l ≠ [] → l.length ≤ 52 → (∀ c ∈ l, c ≠ 46) → Pool p g H' → Kp p g H H' → Q (vS l) H'
def spMarks : Sp := fun vs H Q _ => ∃ (p g : Addr) (l : List Nat) (m : Int), vs = [.ref p, vS l, .int m] ∧ Pool p g H ∧ l ≠ [] ∧ l.length ≤ 52 ∧ 1 ≤ m ∧ m ≤ 2000 ∧
  ∀ H' t, (t.length : Int) = m → Pool p g H' → Kp p g H H' → Q (vS t) H'
def spCut (K : PySem.W.Frag) : Sp := fun vs H Q _ => ∃ (text marks : List Nat), vs = [vS text, vS marks] ∧ text.length = marks.length ∧ marks.length ≤ 100000 ∧
  ∀ H' v, Same H H' → Rep K H' (.tup [rowD (rowAt text marks marks.length), .str (text.drop (begAt marks marks.length))]) v → Q v H'
def spOfRow (K : PySem.W.Frag) : Sp := fun vs H Q _ => ∃ (x : V) (r : Row), vs = [x] ∧ Rep K H (rowD r) x ∧ r.length ≤ 100 ∧ (∀ p ∈ r, 1 ≤ p.1.length ∧ p.1.length ≤ 100 ∧ p.2.length = 1) ∧ ∀ H' v, Same H H' → Rep K H' (.tup [.str (rowMarks r), .str (rowText r)]) v → Q v H'
def b2 (b : Bool) : Int := if b then 1 else 0
/-- the law's look at a cut; the counts go up -/
def spRight (K : PySem.W.Frag) : Sp := fun vs H Q _ => ∃ (text marks : List Nat) (q : Addr) (a b c : Int), vs = [vS text, vS marks, .ref q] ∧ text.length = marks.length ∧ marks.length ≤ 10000 ∧ H q = some (.lst [.int a, .int b, .int c]) ∧
  ∀ H', (∀ b o, b ≠ q → H b = some o → H' b = some o) →
    H' q = some (.lst [.int (a + b2 (decide (begAt marks marks.length < marks.length))), .int (b + b2 (!decide (begAt marks marks.length < marks.length))), .int (c + b2 (!(rowAt text marks marks.length).isEmpty))]) → Q (.bl true) H'
def spRow (K : PySem.W.Frag) : Sp := fun vs H Q _ => ∃ (p g : Addr) (l ns : List Nat) (wd : Bool), vs = [.ref p, vS l, vS ns, .bl wd] ∧ Pool p g H ∧ l ≠ [] ∧ l.length ≤ 6 ∧ ns ≠ [] ∧ ns.length ≤ 52 ∧ (∀ c ∈ ns, c ≠ 46) ∧
  ∀ H' r v, GoodRow r → r.length ≤ 60 → (∀ p ∈ r, p.1.length ≤ 40) → Rep K H' (rowD r) v → Pool p g H' → Kp p g H H' → Q v H'
def spLaw (K : PySem.W.Frag) : Sp := fun vs H Q _ => ∃ (a : Addr) (ns : List Int), vs = [.ref a] ∧ SqL K H a (ns.map V.int) ∧ ns.length ≤ 63 ∧ ∀ H', Q (.bl true) H'
local macro_rules | `(tactic| walk_at "tx") => `(tactic| first
  | exact Tx.refl _
  | assumption
  | (refine Tx.new ?_ (by assumption); walk_at "tx")
  | (refine Tx.lst ?_ (by walk_at "get"); walk_at "tx"))
local macro_rules | `(tactic| walk_at "same") => `(tactic| first
  | assumption
  | exact Same.refl _
  | (refine Same.mut ?_ (by assumption); walk_at "same")
  | (refine Same.new' ?_ (by assumption); walk_at "same"))
local macro_rules | `(tactic| walk_at "ne") => `(tactic| first
  | assumption
  | exact Ne.symm (by assumption)
  | exact (ne_of_none (by assumption) (by assumption))
  | exact (ne_of_none (by assumption) (by assumption)).symm)
local macro_rules | `(tactic| walk_at "get") => `(tactic| first
  | assumption
  | exact upd_same
  | (refine get_ne ?_ ?_; (walk_at "ne"); (walk_at "get")))
local macro_rules | `(tactic| walk_at "sql") => `(tactic| first
  | assumption
  | exact SqL.of (by walk_at "get"))
local macro_rules | `(tactic| walk_at "sqt") => `(tactic| first
  | assumption
  | exact SqT.of (by walk_at "get")
  | (refine Tx.sqT ?_ (by assumption); walk_at "tx"))
local macro_rules | `(tactic| walk_at "at") => `(tactic| first
  | rfl
  | exact atI_nat (by assumption))
local macro_rules | `(tactic| walk_at "side") => `(tactic| first
  | assumption
  | omega
  | decide
  | (simp only [List.length_append, List.length_map, List.length_cons, List.length_nil] ; omega))
local macro_rules | `(tactic| walk_at "cond") => `(tactic| first
  | (show (0 : Int) < _; omega)
  | (show _ ∧ _; constructor <;> omega)
  | (refine .inl ⟨?_, ?_⟩ <;> omega)
  | (refine .inr ⟨?_, ?_⟩ <;> omega))
local macro_rules | `(tactic| walk_at "s") => `(tactic| first
  | (with_reducible refine w_seq ?_)
  | (with_reducible refine w_asg ?_)
  | (with_reducible refine w_gName ?_)
  | ((with_reducible refine' w_var ?hv ?_); (case hv => rfl))
  | (with_reducible refine w_c ?_)
  | (with_reducible refine w_op ?_)
  | (with_reducible refine w_un ?_)
  | (with_reducible refine w_nil ?_)
  | (with_reducible refine w_cons ?_)
  | (with_reducible refine w_CB ?_)
  | (with_reducible refine w_call ?_)
  | (with_reducible refine w_drop ?_)
  | (with_reducible refine w_ret ?_)
  | (with_reducible refine w_retN ?_)
  | (with_reducible refine w_next ?_)
  | (with_reducible refine w_brk ?_)
  | (with_reducible refine w_cont ?_)
  | (with_reducible refine w_if ?_)
  | (with_reducible refine w_test ?_)
  | (with_reducible refine w_tB ?_)
  | (with_reducible refine w_tru ?_)
  | (with_reducible refine w_exbl ?_)
  | (with_reducible refine w_and ?_)
  | (with_reducible refine w_or ?_)
  | (with_reducible refine w_not ?_)
  | (with_reducible refine w_andV ?_)
  | (with_reducible refine w_orV ?_)
  | (with_reducible refine w_notV ?_)
  | (with_reducible refine w_ifE ?_)
  | (with_reducible refine w_tup ?_)
  | (with_reducible refine w_lst ?_)
  | (with_reducible refine w_sl ?_)
  | (with_reducible refine w_nopart ?_)
  | (with_reducible refine w_part ?_)
  | (with_reducible refine w_exint ?_)
  | (with_reducible refine w_BM ?_)
  | (with_reducible refine w_BM0 ?_)
  | (with_reducible refine w_M0 ?_)
  | (with_reducible refine w_M1 ?_)
  | (with_reducible refine w_exstr ?_)
  | (with_reducible refine w_rI0 ?_)
  | (with_reducible refine w_rU ?_)
  | (with_reducible refine w_eqI ?_)
  | (with_reducible refine w_neI ?_)
  | (with_reducible refine w_eqS ?_)
  | (with_reducible refine w_neS ?_)
  | (with_reducible refine w_for1 ?_)
  | (with_reducible refine w_for2 ?_)
  | (with_reducible refine w_forL ?_)
  | (with_reducible refine w_forT ?_)
  | (with_reducible refine w_forE ?_)
  | (with_reducible refine w_lcT ?_)
  | (with_reducible refine w_lcL ?_)
  | (with_reducible refine w_yes ?_)
  | (with_reducible refine w_isN ?_)
  | (with_reducible refine w_notN ?_)
  | (with_reducible refine w_int ?_)
  | (with_reducible refine w_abs ?_)
  | (with_reducible refine w_min ?_)
  | ((with_reducible refine' w_gTup ?h1 ?h2 ?_); (case h1 => walk_at "sqt"); (case h2 => rfl))
  | ((with_reducible refine' w_ixL ?h1 ?h2 ?_); (case h1 => walk_at "sql"); (case h2 => walk_at "at"))
  | ((with_reducible refine' w_ixT ?h1 ?h2 ?_); (case h1 => walk_at "sqt"); (case h2 => walk_at "at"))
  | ((with_reducible refine' w_ixAT ?h1 ?h2 ?_); (case h1 => walk_at "sqt"); (case h2 => walk_at "at"))
  | ((with_reducible refine' w_ixS ?h1 ?h2 ?_); (case h1 => walk_at "side"); (case h2 => walk_at "at"))
  | ((with_reducible refine' w_tyL ?h ?_); (case h => walk_at "get"))
  | ((with_reducible refine' w_truS ?h ?_); (case h => walk_at "side"))
  | ((with_reducible refine' w_truL ?h ?_); (case h => walk_at "sql"))
  | ((with_reducible refine' w_truT ?h ?_); (case h => walk_at "sqt"))
  | ((with_reducible refine' w_append ?h1 ?h2 ?_); (case h1 => walk_at "get"); (case h2 => walk_at "side"))
  | ((with_reducible refine' w_lenS ?h ?_); (case h => walk_at "side"))
  | ((with_reducible refine' w_lenL ?h ?_); (case h => walk_at "sql"))
  | ((with_reducible refine' w_lenT ?h ?_); (case h => walk_at "sqt"))
  | ((with_reducible refine' w_addS ?h ?_); (case h => walk_at "side"))
  | ((with_reducible refine' w_mulS ?h1 ?h2 ?h3 ?_); (case h1 => walk_at "side"); (case h2 => walk_at "side"); (case h3 => walk_at "side"))
  | ((with_reducible refine' w_slS ?h ?_); (case h => walk_at "side"))
  | ((with_reducible refine' w_setL ?h1 ?h2 ?_); (case h1 => walk_at "get"); (case h2 => rfl))
  | ((with_reducible refine' w_rI ?h ?_); (case h => walk_at "cond"))
  | (with_reducible refine w_gCons ?_)
  | (with_reducible refine w_gNil ?_)
  | (with_reducible refine w_gSub ?_)
  | (with_reducible refine iteT ?_)
  | (with_reducible refine iteF ?_)
  | (with_reducible refine ite_nt ?_)
  | (with_reducible refine ite_nf ?_)
  | ((with_reducible refine' w_eqR ?h ?_); (case h => rfl)))
local macro_rules | `(tactic| walk_at "go") => `(tactic| repeat walk_at "s")
section
variable {P : Program} {w : World} {K : PySem.W.Frag} {mg : Str → Option Value} {base : Heap}
abbrev s_row_of : Stmt := topS 1
theorem sc_row_of : FnScope ["text", "marks", "row", "begin", "place", "mark"] ["text", "marks"] (defScope s_row_of) := ⟨rfl, rfl, rfl, by decide +kernel, rfl, by decide +kernel, by decide +kernel⟩
theorem ok_row_of (F : At K mg "row_of" s_row_of) (b_enumerate : mg "enumerate" = none) (b_tuple : mg "tuple" = none) : Cal P w K mg base 1 "row_of" (spRowOf K) := by
  refine F.cal sc_row_of (fun vs H Q E h => ?_) (fun _ _ _ _ _ _ us hl => match us, hl with | [_, _], _ => rfl) (fun f cdv A outer s H vs Q E hr h => ?_)
  · obtain ⟨x, y, rfl, _⟩ := h
    rfl
  · obtain ⟨text, marks, rfl, hz1, hz2, q⟩ := h
    refine ⟨_, (pss_cons (ps_set (i := 2) sc_row_of.nd rfl (.inl rfl) (pe_lst pa_nil))
      (pss_cons (ps_set (i := 3) sc_row_of.nd rfl (.inl rfl) pe_int)
      (pss_cons (ps_for PassesOwn.never rfl (pi_enumS (by rfl) b_enumerate (pa_cons (pv 1) pa_nil)) (pg_tup rfl (pgs_cons (pg_name (i := 4) sc_row_of.nd rfl (.inl rfl)) (pgs_cons (pg_name (i := 5) sc_row_of.nd rfl (.inl rfl)) pgs_nil)))
      (pss_one (ps_if (pt_cmpR op_neS (pv 5) (pe_strL [46] (by decide +kernel)) (nomark _)) (pss_cons (ps_expr (pe_bm PySem.F.plainAttrs_list PySem.F.slot_list_append PySem.F.type_list_append mt_append (pv 2) (pa_cons (pe_tup (pa_cons (pe_slice sl_S (pv 0) (po_some (pv 3)) (po_some (pe_op op_add (pv 4) pe_int))) (pa_cons (pv 5) pa_nil))) pa_nil)))
      (pss_one (ps_set (i := 3) sc_row_of.nd rfl (.inl rfl) (pe_op op_add (pv 4) pe_int)))) pss_nil)))
      (pss_one (ps_ret (pe_callTy call_tupL (by rfl) b_tuple (by decide +kernel) (pa_cons (pv 2) pa_nil))))))), ?_⟩
    refine st_is (σ' := start _ _) (σ := [some (vS text), some (vS marks), none, none, none, none]) rfl ?_
    try dsimp only [cxOf, Cx.nox, Cx.wish]
    walk_at "go"
    refine w_new (by simp) fun c hc => ?_
    walk_at "go"
    refine w_enuQ (fun i σ H' => ∃ xs v4 v5, i ≤ marks.length ∧ σ = [some (vS text), some (vS marks), some (.ref c), some (.int (begAt marks i : Nat)), v4, v5] ∧ H' c = some (.lst xs) ∧ Reps K H' ((rowAt text marks i).map pairD) xs ∧ Same H H')
      ⟨[], none, none, Nat.zero_le _, rfl, upd_same, Reps.nil, same_new hc⟩ ?_ ?_
    · rintro i m σ H1 T hm ⟨xs, v4, v5, hi, rfl, hcs, hrep, sm⟩ hT
      have hi2 : i < marks.length := (List.getElem?_eq_some_iff.mp hm).1
      walk_at "go"
      refine ite2 (fun e => ?_) (fun e => ?_)
      · walk_at "go"
        refine w_new (by simp) fun T2 hT2 => ?_
        have hcT : c ≠ T := ne_of_none hcs hT
        have hcs1 : upd H1 T (.tup [.int (i : Nat), vS [m]]) c = some (.lst xs) := get_ne hcT hcs
        have hcs2 : upd (upd H1 T (.tup [.int (i : Nat), vS [m]])) T2 (.tup [vS (cutL text (some (begAt marks i : Nat)) (some ((i : Nat) + 1 : Int))), vS [m]]) c = some (.lst xs) := get_ne (ne_of_none hcs1 hT2) hcs1
        have hT2c : T2 ≠ c := (ne_of_none hcs1 hT2).symm
        have hlen : xs.length < 16777216 := by
          have h1 := hrep.len
          have h2 := rowAt_len text marks i
          rw [List.length_map] at h1
          omega
        walk_at "go"
        have hne : ¬ marks[i]? = some 46 := by
          intro h
          rw [hm] at h
          have : m = 46 := Option.some.inj h
          subst this
          simp at e
        have hgd : marks.getD i 0 = m := by rw [List.getD_eq_getElem?_getD, hm]; rfl
        have htx : Tx H1 (upd (upd (upd H1 T (.tup [.int (i : Nat), vS [m]])) T2 (.tup [vS (cutL text (some (begAt marks i : Nat)) (some ((i : Nat) + 1 : Int))), vS [m]])) c (.lst (xs ++ [.ref T2]))) := by walk_at "tx"
        refine ⟨_, some (.int (i : Nat)), some (vS [m]), hi2, ?_, upd_same, ?_, ?_⟩
        · rw [begAt_s, if_neg hne]
          have e1 : (((i + 1 : Nat) : Nat) : Int) = (i : Int) + 1 := by omega
          rw [e1]
          rfl
        · rw [rowAt_s, if_neg hne, List.map_append, hgd]
          exact Reps.snoc (Reps.tx htx _ _ hrep) (Rep.tup (.inl (.inl (get_ne hT2c upd_same))) (Reps.cons Rep.str (Reps.cons Rep.str Reps.nil)))
        · walk_at "same"
      · walk_at "go"
        have hm46 : m = 46 := by
          simpa using e
        subst hm46
        refine ⟨_, some (.int (i : Nat)), some (vS [46]), hi2, ?_, get_ne (ne_of_none hcs hT) hcs, ?_, ?_⟩
        · rw [begAt_s, if_pos hm]
          rfl
        · rw [rowAt_s, if_pos hm]
          exact Reps.tx (Tx.new (Tx.refl _) hT) _ _ hrep
        · walk_at "same"
    · rintro σ H1 ⟨xs, v4, v5, hi, rfl, hcs, hrep, sm⟩
      walk_at "go"
      refine w_tupL (SqL.of hcs) fun l hl => ?_
      walk_at "go"
      exact q _ _ (sm.trans (same_new hl)) (Rep.tup (SqT.of upd_same) (Reps.tx (Tx.new (Tx.refl _) hl) _ _ hrep))
abbrev s_loose_of : Stmt := topS 2
theorem sc_loose_of : FnScope ["text", "marks", "begin", "place", "mark"] ["text", "marks"] (defScope s_loose_of) := ⟨rfl, rfl, rfl, by decide +kernel, rfl, by decide +kernel, by decide +kernel⟩
theorem ok_loose_of (F : At K mg "loose_of" s_loose_of) (b_enumerate : mg "enumerate" = none) : Cal P w K mg base 1 "loose_of" spLooseOf := by
  refine F.cal sc_loose_of (fun vs H Q E h => ?_) (fun _ _ _ _ _ _ us hl => match us, hl with | [_, _], _ => rfl) (fun f cdv A outer s H vs Q E hr h => ?_)
  · obtain ⟨x, y, rfl, _⟩ := h
    rfl
  · obtain ⟨text, marks, rfl, hz1, hz2, q⟩ := h
    refine ⟨_, (pss_cons (ps_set (i := 2) sc_loose_of.nd rfl (.inl rfl) pe_int)
      (pss_cons (ps_for PassesOwn.never rfl (pi_enumS (by rfl) b_enumerate (pa_cons (pv 1) pa_nil)) (pg_tup rfl (pgs_cons (pg_name (i := 3) sc_loose_of.nd rfl (.inl rfl)) (pgs_cons (pg_name (i := 4) sc_loose_of.nd rfl (.inl rfl)) pgs_nil)))
      (pss_one (ps_if (pt_cmpR op_neS (pv 4) (pe_strL [46] (by decide +kernel)) (nomark _)) (pss_one (ps_set (i := 2) sc_loose_of.nd rfl (.inl rfl) (pe_op op_add (pv 3) pe_int))) pss_nil)))
      (pss_one (ps_ret (pe_slice sl_S (pv 0) (po_some (pv 2)) po_none))))), ?_⟩
    refine st_is (σ' := start _ _) (σ := [some (vS text), some (vS marks), none, none, none]) rfl ?_
    try dsimp only [cxOf, Cx.nox, Cx.wish]
    walk_at "go"
    refine w_enuQ (fun i σ H' => ∃ v4 v5, σ = [some (vS text), some (vS marks), some (.int (begAt marks i : Nat)), v4, v5] ∧ Same H H')
      ⟨none, none, rfl, Same.refl _⟩ ?_ ?_
    · rintro i m σ H1 T hm ⟨v4, v5, rfl, sm⟩ hT
      walk_at "go"
      refine ite2 (fun e => ?_) (fun e => ?_)
      · walk_at "go"
        have hne : ¬ marks[i]? = some 46 := by
          intro h
          rw [hm] at h
          have : m = 46 := Option.some.inj h
          subst this
          simp at e
        refine ⟨some (.int (i : Nat)), some (vS [m]), ?_, Same.new' sm hT⟩
        rw [begAt_s, if_neg hne]
        have e1 : (((i + 1 : Nat) : Nat) : Int) = (i : Int) + 1 := by omega
        rw [e1]
        rfl
      · walk_at "go"
        have hm46 : m = 46 := by
          simpa using e
        subst hm46
        refine ⟨some (.int (i : Nat)), some (vS [46]), ?_, Same.new' sm hT⟩
        rw [begAt_s, if_pos hm]
        rfl
    · rintro σ H1 ⟨v4, v5, rfl, sm⟩
      walk_at "go"
      have hb := begAt_le marks marks.length
      rw [cutL_from _ (by omega)]
      exact q _ sm
abbrev s_row_marks : Stmt := topS 3
theorem sc_row_marks : FnScope ["row", "told", "piece", "name"] ["row"] (defScope s_row_marks) := ⟨rfl, rfl, rfl, by decide +kernel, rfl, by decide +kernel, by decide +kernel⟩
theorem ok_row_marks (F : At K mg "row_marks" s_row_marks) (b_len : mg "len" = none) : Cal P w K mg base 1 "row_marks" (spRowMarks K) := by
  refine F.cal sc_row_marks (fun vs H Q E h => ?_) (fun _ _ _ _ _ _ us hl => match us, hl with | [_], _ => rfl) (fun f cdv A outer s H vs Q E hr h => ?_)
  · obtain ⟨x, y, rfl, _⟩ := h
    rfl
  · obtain ⟨x, r, rfl, hrep, hz, hm, hp, q⟩ := h
    obtain ⟨a, xs, rfl, hq, hr2⟩ := rep_tup hrep
    refine ⟨_, (pss_cons (ps_set (i := 1) sc_row_marks.nd rfl (.inl rfl) (pe_lst pa_nil))
      (pss_cons (ps_for PassesOwn.never rfl (pi_tup (pv 0)) (pg_tup rfl (pgs_cons (pg_name (i := 2) sc_row_marks.nd rfl (.inl rfl)) (pgs_cons (pg_name (i := 3) sc_row_marks.nd rfl (.inl rfl)) pgs_nil)))
      (pss_one (ps_expr (pe_bm PySem.F.plainAttrs_list PySem.F.slot_list_append PySem.F.type_list_append mt_append (pv 1) (pa_cons (pe_op op_addS (pe_op op_mulS (pe_strL [46] (by decide +kernel)) (pe_op op_sub (pe_callB call_lenS (by rfl) b_len PySem.boot_len (pa_cons (pv 2) pa_nil)) pe_int)) (pv 3)) pa_nil)))))
      (pss_one (ps_ret (pe_m1 PySem.F.slot_str_join PySem.F.type_str_join mt_join0 (pe_strL [] (by decide +kernel)) (pv 1)))))), ?_⟩
    refine st_is (σ' := start _ _) (σ := [some (.ref a), none, none, none]) rfl ?_
    try dsimp only [cxOf, Cx.nox, Cx.wish]
    walk_at "go"
    refine w_new (by simp) fun c hc => ?_
    walk_at "go"
    have len1 : xs.length = r.length := by
      have := hr2.len
      rw [List.length_map] at this
      exact this
    refine w_tupQ ((Tx.new (Tx.refl _) hc).sqT hq) (fun i σ H' => ∃ v4 v5, σ = [some (.ref a), some (.ref c), v4, v5] ∧ H' c = some (.lst (((r.take i).map pieceMarks).map vS)) ∧ Same H H' ∧ Tx H H')
      ⟨none, none, rfl, upd_same, same_new hc, Tx.new (Tx.refl _) hc⟩ (fun i σ H' _ ⟨_, _, _, _, _, tx⟩ => tx.sqT hq) ?_ ?_
    · rintro i x σ H1 hx ⟨v4, v5, rfl, hcs, sm, tx⟩
      have hi : i < r.length := by
        have := (List.getElem?_eq_some_iff.mp hx).1
        omega
      obtain ⟨u, hu, hR⟩ := hr2.get (d := pairD r[i]) (by rw [List.getElem?_map, List.getElem?_eq_getElem hi]; rfl)
      rw [hx] at hu
      have eu : x = u := Option.some.inj hu
      subst eu
      obtain ⟨b, ys, rfl, hb, hys⟩ := rep_tup (Rep.tx tx _ _ hR)
      obtain ⟨y1, ys1, rfl, hy1, hys1⟩ := reps_cons hys
      obtain ⟨y2, ys2, rfl, hy2, hys2⟩ := reps_cons hys1
      have e1 := rep_str hy1
      have e2 := rep_str hy2
      have e3 := reps_nil hys2
      subst e1 e2 e3
      have hpi := hp r[i] (List.getElem_mem hi)
      have hlt : (((r.take i).map pieceMarks).map vS).length < 16777216 := by
        rw [List.length_map, List.length_map, List.length_take]
        omega
      walk_at "go"
      refine w_addS (by rw [rep_len, List.length_singleton]; omega) ?_
      walk_at "go"
      refine ⟨_, _, rfl, ?_, ?_, ?_⟩
      · rw [upd_same, List.take_succ_eq_append_getElem hi, List.map_append, List.map_append]
        rfl
      · walk_at "same"
      · exact Tx.lst tx hcs
    · rintro σ H1 ⟨v4, v5, rfl, hcs, sm, tx⟩
      rw [len1, List.take_length] at hcs
      walk_at "go"
      refine w_join0 (SqL.of hcs) (by unfold rowMarks at hm; omega) ?_
      exact q _ sm
abbrev s_row_text : Stmt := topS 4
theorem sc_row_text : FnScope ["row", "piece", "name"] ["row"] (defScope s_row_text) := ⟨rfl, rfl, rfl, by decide +kernel, rfl, by decide +kernel, by decide +kernel⟩
theorem ok_row_text (F : At K mg "row_text" s_row_text) : Cal P w K mg base 1 "row_text" (spRowText K) := by
  refine F.cal sc_row_text (fun vs H Q E h => ?_) (fun _ _ _ _ _ _ us hl => match us, hl with | [_], _ => rfl) (fun f cdv A outer s H vs Q E hr h => ?_)
  · obtain ⟨x, y, rfl, _⟩ := h
    rfl
  · obtain ⟨x, r, rfl, hrep, hz, hm, q⟩ := h
    obtain ⟨a, xs, rfl, hq, hr2⟩ := rep_tup hrep
    refine ⟨_, (pss_one (ps_ret (pe_m1 PySem.F.slot_str_join PySem.F.type_str_join mt_join0 (pe_strL [] (by decide +kernel)) (pe_lc (own := [("piece", 1), ("name", 2)]) (g := gTup K 2 (gCons (gName 1) (gCons (gName 2) gNil))) (tt := tYes)  rfl sc_row_text.nd (pi_tup (pv 0)) (blkOk_by (N := ["row", "piece", "name"]) (sc := defScope s_row_text) (by decide +kernel)) (fun _ _ _ _ _ => (pg_tup rfl (pgs_cons (pg_name (i := 1) sc_row_text.nd rfl (.inl rfl)) (pgs_cons (pg_name (i := 2) sc_row_text.nd rfl (.inl rfl)) pgs_nil)))) (fun _ _ _ _ _ => pts_nil) (fun _ _ _ _ _ => (pv 1)))))), ?_⟩
    refine st_is (σ' := start _ _) (σ := [some (.ref a), none, none]) rfl ?_
    try dsimp only [cxOf, Cx.nox, Cx.wish]
    walk_at "go"
    have len1 : xs.length = r.length := by
      have := hr2.len
      rw [List.length_map] at this
      exact this
    refine w_lcTQ hq (fun Dl i H' => H' Dl = some (.lst (((r.take i).map (·.1)).map vS)) ∧ Same H H') (fun Dl hD => ⟨upd_same, same_new hD⟩) (fun Dl i H' _ ⟨_, sm⟩ => (Tx.of_same sm).sqT hq) ?_ ?_
    · rintro Dl i x H1 hD hx ⟨hcs, sm⟩
      have hi : i < r.length := by
        have := (List.getElem?_eq_some_iff.mp hx).1
        omega
      obtain ⟨u, hu, hR⟩ := hr2.get (d := pairD r[i]) (by rw [List.getElem?_map, List.getElem?_eq_getElem hi]; rfl)
      rw [hx] at hu
      have eu : x = u := Option.some.inj hu
      subst eu
      obtain ⟨b, ys, rfl, hb, hys⟩ := rep_tup (Rep.tx (Tx.of_same sm) _ _ hR)
      obtain ⟨y1, ys1, rfl, hy1, hys1⟩ := reps_cons hys
      obtain ⟨y2, ys2, rfl, hy2, hys2⟩ := reps_cons hys1
      have e1 := rep_str hy1
      have e2 := rep_str hy2
      have e3 := reps_nil hys2
      subst e1 e2 e3
      walk_at "go"
      refine ⟨rfl, ?_⟩
      walk_at "go"
      refine w_acc hcs (by rw [List.length_map, List.length_map, List.length_take]; omega) ⟨?_, Same.mut sm hD⟩
      rw [upd_same, List.take_succ_eq_append_getElem hi, List.map_append, List.map_append]
      rfl
    · rintro Dl H1 hD ⟨hcs, sm⟩
      rw [len1, List.take_length] at hcs
      refine w_join0 (SqL.of hcs) (by unfold rowText at hm; omega) ?_
      exact q _ sm
abbrev s__law_pool : Stmt := topS 6
theorem sc__law_pool : FnScope ["script", "cells", "seed", "cell"] ["script"] (defScope s__law_pool) := ⟨rfl, rfl, rfl, by decide +kernel, rfl, by decide +kernel, by decide +kernel⟩
theorem ok__law_pool (F : At K mg "_law_pool" s__law_pool) (b_int : mg "int" = none) (b_abs : mg "abs" = none) : Cal P w K mg base 1 "_law_pool" (spPool K) := by
  refine F.cal sc__law_pool (fun vs H Q E h => ?_) (fun _ _ _ _ _ _ us hl => match us, hl with | [_], _ => rfl) (fun f cdv A outer s H vs Q E hr h => ?_)
  · obtain ⟨p, g, rfl, _⟩ := h
    rfl
  · obtain ⟨a, ns, rfl, hS, hz, q⟩ := h
    refine ⟨_, (pss_cons (ps_setLc (i := 1) (own := [("cell", 3)]) (g := gName 3) (tt := tYes) rfl sc__law_pool.nd rfl rfl (sw_true rfl rfl rfl (by decide +kernel)) (pi_list (pe_slice sl_list (pv 0) po_none (po_some pe_int))) (blkOk_by (N := ["script", "cells", "seed", "cell"]) (sc := defScope s__law_pool) (by decide +kernel)) (fun _ _ _ _ _ => (pg_name (i := 3) sc__law_pool.nd rfl (.inl rfl))) (fun _ _ _ _ _ => pts_nil) (fun _ _ _ _ _ => (pe_callTy call_intI (by rfl) b_int (by decide +kernel) (pa_cons (pv 3) pa_nil))))
      (pss_cons (ps_set (i := 2) sc__law_pool.nd rfl (.inl rfl) pe_int)
      (pss_cons (ps_for PassesOwn.never rfl (pi_list (pv 1)) (pg_name (i := 3) sc__law_pool.nd rfl (.inl rfl))
      (pss_cons (ps_set (i := 2) sc__law_pool.nd rfl (.inl rfl) (pe_op op_mod (pe_op op_add (pe_op op_add (pe_op op_mul (pv 2) pe_int) (pe_op op_mul (pv 3) pe_int)) pe_int) pe_int))
      (pss_one (ps_set (i := 2) sc__law_pool.nd rfl (.inl rfl) (pe_op op_mod (pe_op op_mul (pe_op op_add (pv 2) (pe_op op_fdiv (pv 2) pe_int)) pe_int) pe_int)))))
      (pss_one (ps_ret (pe_lst (pa_cons (pv 2) (pa_cons (pe_lc (own := [("cell", 3)]) (g := gName 3)   rfl sc__law_pool.nd (pi_list (pv 1)) (blkOk_by (N := ["script", "cells", "seed", "cell"]) (sc := defScope s__law_pool) (by decide +kernel)) (fun _ _ _ _ _ => (pg_name (i := 3) sc__law_pool.nd rfl (.inl rfl))) (fun _ _ _ _ _ => (pts_one (pt_cmpR op_ge (pe_callB call_absI (by rfl) b_abs (by decide +kernel) (pa_cons (pv 3) pa_nil)) pe_int (nomark _)))) (fun _ _ _ _ _ => (pe_callB call_absI (by rfl) b_abs (by decide +kernel) (pa_cons (pv 3) pa_nil)))) pa_nil)))))))), ?_⟩
    refine st_is (σ' := start _ _) (σ := [some (.ref a), none, none, none]) rfl ?_
    try dsimp only [cxOf, Cx.nox, Cx.wish]
    walk_at "go"
    refine w_slL hS fun t ht => ?_
    walk_at "go"
    have hcut : (cutL (ns.map V.int) none (some 63)).length ≤ 63 := by
      rw [show (63 : Int) = ((63 : Nat) : Int) from rfl, cutL_to, List.length_take]
      omega
    have hcm : cutL (ns.map V.int) none (some 63) = (ns.take 63).map V.int := by
      rw [show (63 : Int) = ((63 : Nat) : Int) from rfl, cutL_to, List.map_take]
    rw [hcm]
    have ht1 : upd H t (.lst ((ns.take 63).map V.int)) t = some (.lst ((ns.take 63).map V.int)) := upd_same
    have sm1 : Same H (upd H t (.lst ((ns.take 63).map V.int))) := same_new ht
    refine w_lcLQ (SqL.of ht1) (fun Dl i H' => H' Dl = some (.lst (((ns.take 63).take i).map V.int)) ∧ H' t = some (.lst ((ns.take 63).map V.int)) ∧ Same H H')
      (fun Dl hD => ⟨upd_same, get_ne (ne_of_none ht1 hD) ht1, sm1.trans (same_new hD)⟩) (fun Dl i H' _ ⟨_, h, _⟩ => SqL.of h) ?_ ?_
    · rintro Dl i x H1 hD hx ⟨hcs, hts, sm⟩
      have hi : i < (ns.take 63).length := by
        have := (List.getElem?_eq_some_iff.mp hx).1
        rw [List.length_map] at this
        exact this
      have ex : x = V.int (ns.take 63)[i] := by
        rw [List.getElem?_map, List.getElem?_eq_getElem hi] at hx
        exact (Option.some.inj hx).symm
      subst ex
      have htD : t ≠ Dl := ne_of_none ht1 hD
      have hD0 : H Dl = none := (none_of_upd hD).1
      walk_at "go"
      refine ⟨rfl, ?_⟩
      have hi63 : i < 63 := by
        rw [List.length_take] at hi
        omega
      walk_at "go"
      refine w_acc hcs (by rw [List.length_map, List.length_take]; omega) ⟨?_, get_ne htD hts, Same.mut sm hD0⟩
      rw [upd_same, List.take_succ_eq_append_getElem hi, List.map_append]
      rfl
    · rintro c H1 hc ⟨hcs, hts, sm⟩
      have hc0 : H c = none := (none_of_upd hc).1
      rw [List.length_map, List.take_length] at hcs
      walk_at "go"
      refine w_lstQ (SqL.of hcs) (fun i σ H' => ∃ sd v, σ = [some (.ref a), some (.ref c), some (.int sd), v] ∧ H' = H1) ⟨_, _, rfl, rfl⟩ (fun i σ H' _ ⟨_, _, _, e⟩ => by rw [e]; exact SqL.of hcs) ?_ ?_
      · rintro i x σ H2 hx ⟨sd, v, rfl, rfl⟩
        obtain ⟨n, rfl⟩ : ∃ n, x = V.int n := by
          rw [List.getElem?_map] at hx
          obtain ⟨n, _, e⟩ := Option.map_eq_some_iff.mp hx
          exact ⟨n, e.symm⟩
        walk_at "go"
        exact ⟨_, _, rfl, rfl⟩
      · rintro σ H2 ⟨sd, v, rfl, rfl⟩
        walk_at "go"
        refine w_lcLQ (SqL.of hcs) (fun Dl i H' => ∃ ms : List Int, ms.length ≤ i ∧ H' Dl = some (.lst (ms.map V.int)) ∧ H' c = some (.lst ((ns.take 63).map V.int)) ∧ Same H H')
          (fun Dl hD => ⟨[], Nat.le_refl _, upd_same, get_ne (ne_of_none hcs hD) hcs, sm.trans (same_new hD)⟩) (fun Dl i H' _ ⟨_, _, _, h, _⟩ => SqL.of h) ?_ ?_
        · rintro Dl i x H3 hD hx ⟨ms, hms, hds, hcs3, sm3⟩
          have hi : i < (ns.take 63).length := by
            have := (List.getElem?_eq_some_iff.mp hx).1
            rw [List.length_map] at this
            exact this
          obtain ⟨n, rfl⟩ : ∃ n, x = V.int n := by
            rw [List.getElem?_map] at hx
            obtain ⟨n, _, e⟩ := Option.map_eq_some_iff.mp hx
            exact ⟨n, e.symm⟩
          have hcD : c ≠ Dl := ne_of_none hcs hD
          have hD0 : H Dl = none := by
            cases h : H Dl with
            | none => rfl
            | some o => rw [sm _ _ h] at hD; cases hD
          walk_at "go"
          refine ⟨rfl, ?_⟩
          walk_at "go"
          refine ite2 (fun e => ?_) (fun e => ?_)
          · walk_at "go"
            refine w_acc hds (by rw [List.length_map]; rw [List.length_take] at hi; omega) ⟨ms ++ [(n.natAbs : Int)], by rw [List.length_append, List.length_singleton]; omega, ?_, get_ne hcD hcs3, Same.mut sm3 hD0⟩
            rw [upd_same, List.map_append]
            rfl
          · exact ⟨ms, by omega, hds, hcs3, sm3⟩
        · rintro g H3 hg ⟨ms, hms, hds, hcs3, sm3⟩
          walk_at "go"
          refine w_new (by simp) fun p hp => ?_
          have hg0 : H g = none := by
            cases h : H g with
            | none => rfl
            | some o => rw [sm _ _ h] at hg; cases hg
          have hp0 : H p = none := by
            cases h : H p with
            | none => rfl
            | some o => rw [sm3 _ _ h] at hp; cases hp
          have hpg : g ≠ p := ne_of_none hds hp
          refine q _ p g hp0 hg0 ⟨hpg.symm, sd, ms, upd_same, get_ne hpg hds, ?_⟩ (sm3.trans (same_new hp))
          rw [List.length_map, List.length_take] at hms
          omega
abbrev s__law_draw : Stmt := topS 7
theorem sc__law_draw : FnScope ["pool", "many", "great", "cell"] ["pool", "many"] (defScope s__law_draw) := ⟨rfl, rfl, rfl, by decide +kernel, rfl, by decide +kernel, by decide +kernel⟩
theorem ok__law_draw (F : At K mg "_law_draw" s__law_draw) (b_int : mg "int" = none) : Cal P w K mg base 1 "_law_draw" spDraw := by
  refine F.cal sc__law_draw (fun vs H Q E h => ?_) (fun _ _ _ _ _ _ us hl => match us, hl with | [_, _], _ => rfl) (fun f cdv A outer s H vs Q E hr h => ?_)
  · obtain ⟨p, g, m, rfl, _⟩ := h
    rfl
  · obtain ⟨p, g, m, rfl, hP, m0, m1, q⟩ := h
    refine ⟨_, (pss_cons (ps_set (i := 2) sc__law_draw.nd rfl (.inl rfl) (pe_ix ix_list (pv 0) pe_int (fun _ _ => rfl)))
      (pss_cons (ps_if (pt_tru (pv 2) (fun _ => rfl)) (pss_cons (ps_set (i := 3) sc__law_draw.nd rfl (.inl rfl) (pe_bm0 PySem.F.plainAttrs_list PySem.F.slot_list_pop PySem.F.type_list_pop mt_pop (pv 2)))
      (pss_cons (ps_if (pt_cmpR op_gt (pe_op op_fdiv (pv 3) (pv 1)) pe_int (nomark _)) (pss_one (ps_expr (pe_bm PySem.F.plainAttrs_list PySem.F.slot_list_append PySem.F.type_list_append mt_append (pv 2) (pa_cons (pe_op op_fdiv (pv 3) (pv 1)) pa_nil)))) pss_nil)
      (pss_one (ps_ret (pe_op op_mod (pe_callTy call_intI (by rfl) b_int (by decide +kernel) (pa_cons (pv 3) pa_nil)) (pv 1)))))) pss_nil)
      (pss_cons (ps_asg (pe_op op_mod (pe_op op_add (pe_op op_mul (pe_ix ix_list (pv 0) pe_int (fun _ _ => rfl)) pe_int) pe_int) pe_int) (pg_sub (pv 0) pe_int set_list))
      (pss_one (ps_ret (pe_op op_mod (pe_op op_fdiv (pe_callTy call_intI (by rfl) b_int (by decide +kernel) (pa_cons (pe_ix ix_list (pv 0) pe_int (fun _ _ => rfl)) pa_nil)) pe_int) (pv 1))))))), ?_⟩
    obtain ⟨ne, x, ns, hp, hg, hn⟩ := hP
    refine st_is (σ' := start _ _) (σ := [some (.ref p), some (.int m), none, none]) rfl ?_
    try dsimp only [cxOf, Cx.nox, Cx.wish]
    walk_at "go"
    by_cases hns : ns = []
    · subst hns
      refine iteF ?_
      walk_at "go"
      refine q _ _ (Int.emod_nonneg _ (by omega)) (Int.emod_lt_of_pos _ m0) ⟨ne, _, [], upd_same, get_ne ne.symm hg, hn⟩ ?_
      exact fun b o h1 h2 h3 => get_ne h1 h3
    · obtain ⟨xs, y, rfl⟩ : ∃ xs y, ns = xs ++ [y] := ⟨ns.dropLast, ns.getLast hns, (List.dropLast_concat_getLast hns).symm⟩
      have e1 : (!(List.map V.int (xs ++ [y])).isEmpty) = true := by simp
      rw [e1]
      rw [List.map_append] at hg
      rw [List.length_append] at hn
      walk_at "go"
      refine w_pop hg ?_
      walk_at "go"
      refine ite2 (fun e => ?_) (fun e => ?_)
      · walk_at "go"
        refine q _ _ (Int.emod_nonneg _ (by omega)) (Int.emod_lt_of_pos _ m0) ⟨ne, x, xs ++ [y / m], ?_, ?_, ?_⟩ ?_
        · rw [upd_upd]
          exact get_ne ne hp
        · rw [upd_same, List.map_append]
          rfl
        · rw [List.length_append]
          exact hn
        · rw [upd_upd]
          exact fun b o h1 h2 h3 => get_ne h2 h3
      · walk_at "go"
        refine q _ _ (Int.emod_nonneg _ (by omega)) (Int.emod_lt_of_pos _ m0) ⟨ne, x, xs, get_ne ne hp, upd_same, by omega⟩ ?_
        exact fun b o h1 h2 h3 => get_ne h2 h3
abbrev s__law_same : Stmt := topS 8
theorem sc__law_same : FnScope ["told", "due", "stack", "one", "two", "at"] ["told", "due"] (defScope s__law_same) := ⟨rfl, rfl, rfl, by decide +kernel, rfl, by decide +kernel, by decide +kernel⟩
theorem sizes_app : ∀ (a b : List D), D.sizes (a ++ b) = D.sizes a + D.sizes b
  | [], b => by simp [D.sizes]
  | d :: a, b => by
    show D.sizes (d :: (a ++ b)) = _
    simp only [D.sizes, sizes_app a b]
    omega
theorem sizes_rev : ∀ (a : List D), D.sizes a.reverse = D.sizes a
  | [] => rfl
  | d :: a => by
    rw [List.reverse_cons, sizes_app, sizes_rev a]
    simp only [D.sizes]
    omega
theorem size_pos (d : D) : 1 ≤ d.size := by
  cases d <;> simp [D.size]
theorem len_sizes : ∀ (a : List D), a.length ≤ D.sizes a
  | [] => Nat.le_refl _
  | d :: a => by
    have h1 := size_pos d
    have h2 := len_sizes a
    simp only [D.sizes, List.length_cons]
    omega
/-- the pairs on the stack are of one datum each -/
def Stk (K : PySem.W.Frag) (H : Hp) : List D → List V → Prop
  | [], ts => ts = []
  | d :: ds, ts => ∃ t r a x y, ts = r ++ [t] ∧ t = .ref a ∧ SqT K H a [x, y] ∧ Rep K H d x ∧ Rep K H d y ∧ Stk K H ds r
theorem Stk.tx {H H' : Hp} (x : Tx H H') : ∀ (ds : List D) (ts : List V), Stk K H ds ts → Stk K H' ds ts
  | [], _, h => h
  | d :: ds, ts, h => by
    obtain ⟨t, r, a, y, z, e1, e2, h1, h2, h3, h4⟩ := h
    exact ⟨t, r, a, y, z, e1, e2, x.sqT h1, Rep.tx x _ _ h2, Rep.tx x _ _ h3, Stk.tx x ds r h4⟩
theorem Stk.len {H : Hp} : ∀ {ds : List D} {ts : List V}, Stk K H ds ts → ts.length = ds.length
  | [], ts, h => by rw [show ts = [] from h]; rfl
  | d :: ds, ts, h => by
    obtain ⟨t, r, a, y, z, rfl, e2, h1, h2, h3, h4⟩ := h
    rw [List.length_append, Stk.len h4]
    rfl
theorem ok__law_same (F : At K mg "_law_same" s__law_same) (b_len : mg "len" = none) (b_range : mg "range" = none) (b_isinstance : mg "isinstance" = none) (b_bool : mg "bool" = none) (b_int : mg "int" = none) (b_str : mg "str" = none) (b_tuple : mg "tuple" = none) (b_list : mg "list" = none) : Cal P w K mg base 1 "_law_same" (spSame K) := by
  refine F.cal sc__law_same (fun vs H Q E h => ?_) (fun _ _ _ _ _ _ us hl => match us, hl with | [_, _], _ => rfl) (fun f cdv A outer s H vs Q E hr h => ?_)
  · obtain ⟨x, y, d, rfl, _⟩ := h
    rfl
  · obtain ⟨x, y, d, rfl, hx, hy, hz, q⟩ := h
    refine ⟨_, (pss_cons (ps_set (i := 2) sc__law_same.nd rfl (.inl rfl) (pe_lst (pa_cons (pe_tup (pa_cons (pv 0) (pa_cons (pv 1) pa_nil))) pa_nil)))
      (pss_cons (ps_while PassesOwn.never (pt_tru (pv 2) (fun _ => rfl))
      (pss_cons (ps_asg (pe_bm0 PySem.F.plainAttrs_list PySem.F.slot_list_pop PySem.F.type_list_pop mt_pop (pv 2)) (pg_tup rfl (pgs_cons (pg_name (i := 3) sc__law_same.nd rfl (.inl rfl)) (pgs_cons (pg_name (i := 4) sc__law_same.nd rfl (.inl rfl)) pgs_nil))))
      (pss_one (ps_if (pt_cmpR op_isN2 (pv 4) pe_non (nomark _)) (pss_one (ps_if (pt_cmpR op_notN2 (pv 3) pe_non (nomark _)) (pss_one (ps_ret pe_bl)) pss_nil)) (pss_one (ps_if (pt_val (pe_callB call_isi (by rfl) b_isinstance (by decide +kernel) (pa_cons (pv 4) (pa_cons (pe_bltn (v := .ty "bool") (u := .type "bool") (by rfl) b_bool (by decide +kernel) rfl) pa_nil)))) (pss_one (ps_if (PW.pt (pw_or (pt_not (pt_val (pe_callB call_isi (by rfl) b_isinstance (by decide +kernel) (pa_cons (pv 3) (pa_cons (pe_bltn (v := .ty "bool") (u := .type "bool") (by rfl) b_bool (by decide +kernel) rfl) pa_nil))))) (pw_or1 (pt_not (pt_cmpR op_eq (pv 3) (pv 4) (nomark _)))))) (pss_one (ps_ret pe_bl)) pss_nil)) (pss_one (ps_if (pt_val (pe_callB call_isi (by rfl) b_isinstance (by decide +kernel) (pa_cons (pv 4) (pa_cons (pe_bltn (v := .ty "int") (u := .type "int") (by rfl) b_int (by decide +kernel) rfl) pa_nil)))) (pss_one (ps_if (PW.pt (pw_or (pt_not (pt_val (pe_callB call_isi (by rfl) b_isinstance (by decide +kernel) (pa_cons (pv 3) (pa_cons (pe_bltn (v := .ty "int") (u := .type "int") (by rfl) b_int (by decide +kernel) rfl) pa_nil))))) (pw_or (pt_val (pe_callB call_isi (by rfl) b_isinstance (by decide +kernel) (pa_cons (pv 3) (pa_cons (pe_bltn (v := .ty "bool") (u := .type "bool") (by rfl) b_bool (by decide +kernel) rfl) pa_nil)))) (pw_or1 (pt_not (pt_cmpR op_eq (pv 3) (pv 4) (nomark _))))))) (pss_one (ps_ret pe_bl)) pss_nil)) (pss_one (ps_if (pt_val (pe_callB call_isi (by rfl) b_isinstance (by decide +kernel) (pa_cons (pv 4) (pa_cons (pe_bltn (v := .ty "str") (u := .type "str") (by rfl) b_str (by decide +kernel) rfl) pa_nil)))) (pss_one (ps_if (PW.pt (pw_or (pt_not (pt_val (pe_callB call_isi (by rfl) b_isinstance (by decide +kernel) (pa_cons (pv 3) (pa_cons (pe_bltn (v := .ty "str") (u := .type "str") (by rfl) b_str (by decide +kernel) rfl) pa_nil))))) (pw_or1 (pt_not (pt_cmpR op_eq (pv 3) (pv 4) (nomark _)))))) (pss_one (ps_ret pe_bl)) pss_nil)) (pss_cons (ps_if (PW.pt (pw_and (pt_val (pe_callB call_isi (by rfl) b_isinstance (by decide +kernel) (pa_cons (pv 4) (pa_cons (pe_bltn (v := .ty "tuple") (u := .type "tuple") (by rfl) b_tuple (by decide +kernel) rfl) pa_nil)))) (pw_and1 (pt_not (pt_val (pe_callB call_isi (by rfl) b_isinstance (by decide +kernel) (pa_cons (pv 3) (pa_cons (pe_bltn (v := .ty "tuple") (u := .type "tuple") (by rfl) b_tuple (by decide +kernel) rfl) pa_nil)))))))) (pss_one (ps_ret pe_bl)) pss_nil)
      (pss_cons (ps_if (PW.pt (pw_and (pt_val (pe_callB call_isi (by rfl) b_isinstance (by decide +kernel) (pa_cons (pv 4) (pa_cons (pe_bltn (v := .ty "list") (u := .type "list") (by rfl) b_list (by decide +kernel) rfl) pa_nil)))) (pw_and1 (pt_not (pt_val (pe_callB call_isi (by rfl) b_isinstance (by decide +kernel) (pa_cons (pv 3) (pa_cons (pe_bltn (v := .ty "list") (u := .type "list") (by rfl) b_list (by decide +kernel) rfl) pa_nil)))))))) (pss_one (ps_ret pe_bl)) pss_nil)
      (pss_cons (ps_if (pt_not (pt_cmpR op_eqI (pe_callB call_lenQ (by rfl) b_len PySem.boot_len (pa_cons (pv 3) pa_nil)) (pe_callB call_lenQ (by rfl) b_len PySem.boot_len (pa_cons (pv 4) pa_nil)) (nomark _))) (pss_one (ps_ret pe_bl)) pss_nil)
      (pss_one (ps_for PassesOwn.never rfl (pi_range1 (by rfl) b_range (pa_cons (pe_callB call_lenQ (by rfl) b_len PySem.boot_len (pa_cons (pv 4) pa_nil)) pa_nil)) (pg_name (i := 5) sc__law_same.nd rfl (.inl rfl))
      (pss_one (ps_expr (pe_bm PySem.F.plainAttrs_list PySem.F.slot_list_append PySem.F.type_list_append mt_append (pv 2) (pa_cons (pe_tup (pa_cons (pe_ix ix_seq (pv 3) (pv 5) (fun _ _ => rfl)) (pa_cons (pe_ix ix_seq (pv 4) (pv 5) (fun _ _ => rfl)) pa_nil))) pa_nil)))))))))))))))))))
      (pss_one (ps_ret pe_bl)))), ?_⟩
    refine st_is (σ' := start _ _) (σ := [some x, some y, none, none, none, none]) rfl ?_
    try dsimp only [cxOf, Cx.nox, Cx.wish]
    walk_at "go"
    refine w_new (by simp) fun t ht => ?_
    walk_at "go"
    refine w_new (by simp) fun c hc => ?_
    walk_at "go"
    obtain ⟨hc0, hct⟩ := none_of_upd hc
    have sm0 : Same H (upd H t (.tup [x, y])) := same_new ht
    have sm1 : Same H (upd (upd H t (.tup [x, y])) c (.lst [.ref t])) := sm0.trans (same_new hc)
    have tx1 := Tx.of_same sm1
    refine w_while (fun m σ H' => ∃ ds ts v3 v4 v5, m = D.sizes ds ∧ D.sizes ds ≤ 10000000 ∧ σ = [some x, some y, some (.ref c), v3, v4, v5] ∧ H' c = some (.lst ts) ∧ Stk K H' ds ts ∧ Same H H') (D.sizes [d])
      ⟨[d], [.ref t], none, none, none, rfl, by simpa [D.sizes] using hz, rfl, upd_same, ⟨.ref t, [], t, x, y, rfl, rfl, .inl (.inl (get_ne (Ne.symm hct) upd_same)), Rep.tx tx1 _ _ hx, Rep.tx tx1 _ _ hy, rfl⟩, sm1⟩ ?_
      (fun σ H Q Q' hq ⟨v, e, k, t, h⟩ => ⟨v, e, k, t, hq _ _ h⟩)
    rintro m σ H2 ⟨ds, ts, v3, v4, v5, rfl, hb, rfl, hcs, hst, sm⟩
    walk_at "go"
    cases ds with
    | nil =>
      rw [show ts = [] from hst]
      refine iteF ?_
      walk_at "go"
      exact q _ sm
    | cons d ds =>
      obtain ⟨t', r, a, x', y', rfl, rfl, ha, hx', hy', hr'⟩ := hst
      have e1 : (!(r ++ [V.ref a]).isEmpty) = true := by simp
      rw [e1]
      refine iteT ?_
      walk_at "go"
      refine w_pop hcs ?_
      have tx2 : Tx H2 (upd H2 c (.lst r)) := Tx.lst (Tx.refl _) hcs
      have ha2 := tx2.sqT ha
      have hx2 := Rep.tx tx2 _ _ hx'
      have hy2 := Rep.tx tx2 _ _ hy'
      have hr2 := Stk.tx tx2 _ _ hr'
      have sm2 : Same H (upd H2 c (.lst r)) := fun b o e => get_ne (ne_of_none e hc0) (sm b o e)
      have hc2 : (upd H2 c (.lst r)) c = some (.lst r) := upd_same
      generalize upd H2 c (.lst r) = H3 at ha2 hx2 hy2 hr2 sm2 hc2 ⊢
      walk_at "go"
      have sz := size_pos d
      have hb' : D.size d + D.sizes ds ≤ 10000000 := by simpa [D.sizes] using hb
      have done : ∀ v3 v4 v5, ∃ m', m' < D.sizes (d :: ds) ∧ ∃ ds' ts v3' v4' v5', m' = D.sizes ds' ∧ D.sizes ds' ≤ 10000000 ∧ [some x, some y, some (V.ref c), v3, v4, v5] = [some x, some y, some (V.ref c), v3', v4', v5'] ∧ H3 c = some (.lst ts) ∧ Stk K H3 ds' ts ∧ Same H H3 := fun v3 v4 v5 =>
        ⟨D.sizes ds, by simp only [D.sizes]; omega, ds, r, v3, v4, v5, rfl, by omega, rfl, hc2, hr2, sm2⟩
      cases d with
      | non =>
        have ex : x' = .non := hx2
        have ey : y' = .non := hy2
        subst ex ey
        refine iteT ?_
        walk_at "go"
        refine iteF ?_
        walk_at "go"
        exact done _ _ _
      | bl b =>
        have ex : x' = .bl b := hx2
        have ey : y' = .bl b := hy2
        subst ex ey
        refine iteF ?_
        walk_at "go"
        refine w_isi (rep_ty hx2) kb_bool ?_
        walk_at "go"
        refine w_isi (rep_ty hx2) kb_bool ?_
        walk_at "go"
        rw [decide_eq_true rfl]
        walk_at "go"
        exact done _ _ _
      | int n =>
        have ex : x' = .int n := hx2
        have ey : y' = .int n := hy2
        subst ex ey
        refine iteF ?_
        walk_at "go"
        refine w_isi (rep_ty hx2) ki_bool ?_
        walk_at "go"
        refine w_isi (rep_ty hx2) ki_int ?_
        walk_at "go"
        refine w_isi (rep_ty hx2) ki_int ?_
        walk_at "go"
        refine w_isi (rep_ty hx2) ki_bool ?_
        walk_at "go"
        rw [decide_eq_true rfl]
        walk_at "go"
        exact done _ _ _
      | str l =>
        have ex : x' = vS l := hx2
        have ey : y' = vS l := hy2
        subst ex ey
        refine iteF ?_
        walk_at "go"
        refine w_isi (rep_ty hx2) ks_bool ?_
        walk_at "go"
        refine w_isi (rep_ty hx2) ks_int ?_
        walk_at "go"
        refine w_isi (rep_ty hx2) ks_str ?_
        walk_at "go"
        refine w_isi (rep_ty hx2) ks_str ?_
        walk_at "go"
        rw [decide_eq_true rfl]
        walk_at "go"
        exact done _ _ _
      | tup es =>
        obtain ⟨a1, xs1, ex, hq1, hr1⟩ := rep_tup hx2
        obtain ⟨a2, xs2, ey, hq2, hr2'⟩ := rep_tup hy2
        subst ex ey
        refine iteF ?_
        walk_at "go"
        refine w_isi (rep_ty hy2) kt_bool ?_
        walk_at "go"
        refine w_isi (rep_ty hy2) kt_int ?_
        walk_at "go"
        refine w_isi (rep_ty hy2) kt_str ?_
        walk_at "go"
        refine w_isi (rep_ty hy2) kt_tuple ?_
        walk_at "go"
        refine w_isi (rep_ty hx2) kt_tuple ?_
        walk_at "go"
        refine w_isi (rep_ty hy2) kt_list ?_
        walk_at "go"
        rw [hr1.len, hr2'.len, decide_eq_true rfl]
        walk_at "go"
        have el : es.length ≤ D.sizes es := len_sizes es
        have es1 : D.sizes es < 10000000 := by simp only [D.size] at hb' sz; omega
        refine w_rng1 (by rw [hr2'.len]; omega) (by rw [hr2'.len]; omega) (fun i σ H' => ∃ ts v5, σ = [some x, some y, some (.ref c), some (.ref a1), some (.ref a2), v5] ∧ i ≤ es.length ∧ H' c = some (.lst ts) ∧ Stk K H' ((es.take i).reverse ++ ds) ts ∧ Same H H' ∧ Tx H3 H')
          ⟨r, v5, rfl, Nat.zero_le _, hc2, hr2, sm2, Tx.refl _⟩ ?_ ?_
        · rintro i σ H4 hi ⟨ts, v5', rfl, hi', hcs4, hst4, sm4, tx4⟩
          rw [hr2'.len] at hi
          have hi2 : i < es.length := by omega
          obtain ⟨u1, hu1, hR1⟩ := hr1.get (List.getElem?_eq_getElem hi2)
          obtain ⟨u2, hu2, hR2⟩ := hr2'.get (List.getElem?_eq_getElem hi2)
          have hq1' := tx4.sqT hq1
          have hq2' := tx4.sqT hq2
          walk_at "go"
          refine w_new (by simp) fun t2 ht2 => ?_
          have hcs5 : upd H4 t2 (.tup [u1, u2]) c = some (.lst ts) := get_ne (ne_of_none hcs4 ht2) hcs4
          have ltk : ((es.take i).reverse ++ ds).length ≤ es.length + ds.length := by
            rw [List.length_append, List.length_reverse, List.length_take]
            omega
          have lds := len_sizes ds
          have lts : ts.length < 16777216 := by rw [hst4.len]; simp only [D.size] at hb'; omega
          walk_at "go"
          have tx5 : Tx H4 (upd (upd H4 t2 (.tup [u1, u2])) c (.lst (ts ++ [.ref t2]))) := Tx.lst (Tx.new (Tx.refl _) ht2) hcs5
          have hct2 : t2 ≠ c := (ne_of_none hcs4 ht2).symm
          refine ⟨_, _, rfl, hi2, upd_same, ?_, fun b o e => ?_, tx4.trans tx5⟩
          · rw [List.take_succ_eq_append_getElem hi2, List.reverse_append]
            exact ⟨.ref t2, ts, t2, u1, u2, rfl, rfl, .inl (.inl (get_ne hct2 upd_same)), Rep.tx (tx4.trans tx5) _ _ hR1, Rep.tx (tx4.trans tx5) _ _ hR2, Stk.tx tx5 _ _ hst4⟩
          · have e4 := sm4 b o e
            exact get_ne (ne_of_none e hc0) (get_ne (ne_of_none e4 ht2) e4)
        · rintro σ H4 ⟨ts, v5', rfl, hi', hcs4, hst4, sm4, tx4⟩
          rw [hr2'.len, Int.toNat_natCast, List.take_length] at hst4
          refine ⟨D.sizes (es.reverse ++ ds), ?_, es.reverse ++ ds, ts, _, _, _, rfl, ?_, rfl, hcs4, hst4, sm4⟩
          · rw [sizes_app, sizes_rev]
            simp only [D.sizes, D.size]
            omega
          · rw [sizes_app, sizes_rev]
            simp only [D.size] at hb'
            omega
abbrev s__law_letters : Stmt := topS 9
theorem sc__law_letters : FnScope ["pool", "most", "alphabet", "chosen", "turn", "at", "further"] ["pool", "most"] (defScope s__law_letters) := ⟨rfl, rfl, rfl, by decide +kernel, rfl, by decide +kernel, by decide +kernel⟩
abbrev alphaL : List Nat := [65, 66, 67, 68, 69, 70, 71, 72, 73, 74, 75, 76, 77, 78, 79, 80, 81, 82, 83, 84, 85, 86, 87, 88, 89, 90, 97, 98, 99, 100, 101, 102, 103, 104, 105, 106, 107, 108, 109, 110, 111, 112, 113, 114, 115, 116, 117, 118, 119, 120, 121, 122]
theorem alpha_at (n : Int) : ∃ c, atI alphaL (n % 52) = some c := by
  have h1 := Int.emod_nonneg n (show (52 : Int) ≠ 0 by decide)
  have h2 := Int.emod_lt_of_pos n (show (0 : Int) < 52 by decide)
  obtain ⟨k, e⟩ := Int.eq_ofNat_of_zero_le h1
  have hk : k < alphaL.length := by
    show k < 52
    omega
  rw [e]
  exact ⟨alphaL[k], atI_nat (List.getElem?_eq_getElem hk)⟩
theorem flat_len : ∀ (xs : List (List Nat)), (∀ x ∈ xs, x.length = 1) → xs.flatten.length = xs.length
  | [], _ => rfl
  | x :: xs, h => by
    have h1 := h x List.mem_cons_self
    have h2 := flat_len xs fun y hy => h y (List.mem_cons_of_mem _ hy)
    simp only [List.flatten_cons, List.length_append, List.length_cons]
    omega
theorem ok__law_letters (c__law_draw : Cal P w K mg base 1 "_law_draw" spDraw) (F : At K mg "_law_letters" s__law_letters) (b_range : mg "range" = none) (b_sorted : mg "sorted" = none) : Cal P w K mg base 2 "_law_letters" spLetters := by
  refine F.cal sc__law_letters (fun vs H Q E h => ?_) (fun _ _ _ _ _ _ us hl => match us, hl with | [_, _], _ => rfl) (fun f cdv A outer s H vs Q E hr h => ?_)
  · obtain ⟨p, g, m, rfl, _⟩ := h
    rfl
  · obtain ⟨p, g, m, rfl, hP, m0, m1, q⟩ := h
    refine ⟨_, (pss_cons (ps_set (i := 2) sc__law_letters.nd rfl (.inl rfl) (pe_strL [65, 66, 67, 68, 69, 70, 71, 72, 73, 74, 75, 76, 77, 78, 79, 80, 81, 82, 83, 84, 85, 86, 87, 88, 89, 90, 97, 98, 99, 100, 101, 102, 103, 104, 105, 106, 107, 108, 109, 110, 111, 112, 113, 114, 115, 116, 117, 118, 119, 120, 121, 122] (by decide +kernel)))
      (pss_cons (ps_set (i := 3) sc__law_letters.nd rfl (.inl rfl) (pe_lst pa_nil))
      (pss_cons (ps_for PassesOwn.never rfl (pi_range1 (by rfl) b_range (pa_cons (pe_op op_add pe_int (pe_c c__law_draw hr (by decide) (by rfl) (pa_cons (pv 0) (pa_cons (pv 1) pa_nil)))) pa_nil)) (pg_name (i := 4) sc__law_letters.nd rfl (.inl rfl))
      (pss_cons (ps_set (i := 5) sc__law_letters.nd rfl (.inl rfl) (pe_c c__law_draw hr (by decide) (by rfl) (pa_cons (pv 0) (pa_cons pe_int pa_nil))))
      (pss_one (ps_for PassesOwn.never rfl (pi_range1 (by rfl) b_range (pa_cons pe_int pa_nil)) (pg_name (i := 6) sc__law_letters.nd rfl (.inl rfl))
      (pss_one (ps_if (pt_cmpR op_ninL (pe_ix ix_S (pv 2) (pe_op op_mod (pe_op op_add (pv 5) (pv 6)) pe_int) (fun _ _ => rfl)) (pv 3) (by rfl)) (pss_cons (ps_expr (pe_bm PySem.F.plainAttrs_list PySem.F.slot_list_append PySem.F.type_list_append mt_append (pv 3) (pa_cons (pe_ix ix_S (pv 2) (pe_op op_mod (pe_op op_add (pv 5) (pv 6)) pe_int) (fun _ _ => rfl)) pa_nil)))
      (pss_one ps_break)) pss_nil))))))
      (pss_one (ps_ret (pe_m1 PySem.F.slot_str_join PySem.F.type_str_join mt_join0 (pe_strL [] (by decide +kernel)) (pe_callB cr_sortedT (by rfl) b_sorted (by decide +kernel) (pa_cons (pv 3) pa_nil)))))))), ?_⟩
    refine st_is (σ' := start _ _) (σ := [some (.ref p), some (.int m), none, none, none, none, none]) rfl ?_
    try dsimp only [cxOf, Cx.nox, Cx.wish]
    walk_at "go"
    refine w_new (by simp) fun c hc => ?_
    walk_at "go"
    have hP1 : Pool p g (upd H c (.lst [])) := hP.new hc
    have kp1 : Kp p g H (upd H c (.lst [])) := Kp.of_same (same_new hc)
    have hcp := hP.ne1 hc
    have hcg := hP.ne2 hc
    refine ⟨p, g, m, rfl, hP1, by omega, by omega, fun H1 r h0 h1 hP2 kp2 => ?_⟩
    have hc1 : H1 c = some (.lst (([] : List (List Nat)).map vS)) := kp2 _ _ hcp hcg upd_same
    walk_at "go"
    refine w_rng1 (by omega) (by omega) (fun i σ H' => ∃ cs v4 v5 v6, σ = [some (.ref p), some (.int m), some (vS alphaL), some (.ref c), v4, v5, v6] ∧ cs.length ≤ i ∧ (0 < i → cs ≠ []) ∧ (∀ x ∈ cs, x.length = 1) ∧ H' c = some (.lst (cs.map vS)) ∧ Pool p g H' ∧ Kp p g H H')
      ⟨[], _, _, _, rfl, Nat.le_refl _, fun h => absurd h (Nat.lt_irrefl 0), (fun _ h => nomatch h), hc1, hP2, kp1.trans kp2⟩ ?_ ?_
    · rintro i σ H2 hi ⟨cs, v4, v5, v6, rfl, hcl, hne, hone, hcs, hP3, kp3⟩
      walk_at "go"
      refine ⟨p, g, 52, rfl, hP3, by omega, by omega, fun H3 r3 h30 h31 hP4 kp4 => ?_⟩
      have hc3 := kp4 _ _ hcp hcg hcs
      walk_at "go"
      refine w_rng1 (by omega) (by omega) (fun j σ H' => ∃ v6, σ = [some (.ref p), some (.int m), some (vS alphaL), some (.ref c), some (.int (i : Nat)), some (.int r3), v6] ∧ (cs = [] → j = 0) ∧ H' = H3)
        ⟨_, rfl, fun _ => rfl, rfl⟩ ?_ ?_
      · rintro j σ H4 hj ⟨v6, rfl, hj0, rfl⟩
        obtain ⟨ch, hch⟩ := alpha_at (r3 + (j : Int))
        walk_at "go"
        refine w_ixS (by simp) hch ?_
        walk_at "go"
        refine w_ninL (SqL.of hc3) ?_
        walk_at "go"
        refine ite2 (fun e => ?_) (fun e => ?_)
        · walk_at "go"
          refine w_ixS (by simp) hch ?_
          have hlt : (cs.map vS).length < 16777216 := by rw [List.length_map]; omega
          walk_at "go"
          refine ⟨cs ++ [[ch]], _, _, _, rfl, by rw [List.length_append, List.length_singleton]; omega, fun _ h => by simp at h, ?_, ?_, hP4.lst hcp hcg, ?_⟩
          · intro x hx
            rcases List.mem_append.mp hx with hx | hx
            · exact hone x hx
            · rw [List.mem_singleton.mp hx]
              rfl
          · rw [upd_same, List.map_append]
            rfl
          · exact fun b o k1 k2 e => get_ne (ne_of_none e hc) ((kp3.trans kp4) b o k1 k2 e)
        · walk_at "go"
          refine ⟨_, rfl, fun hcs0 => ?_, rfl⟩
          subst hcs0
          simp at e
      · rintro σ H4 ⟨v6, rfl, hj0, rfl⟩
        refine ⟨cs, _, _, _, rfl, by omega, fun _ h => ?_, hone, hc3, hP4, kp3.trans kp4⟩
        have := hj0 h
        simp at this
    · rintro σ H2 ⟨cs, v4, v5, v6, rfl, hcl, hne, hone, hcs, hP3, kp3⟩
      walk_at "go"
      refine w_sortedT (SqL.of hcs) (by omega) fun ys t hperm hsorted ht => ?_
      have hy1 : ∀ y ∈ ys, y.length = 1 := fun y hy => hone y (hperm.mem_iff.mp hy)
      have hfl := flat_len ys hy1
      have hpl := hperm.length_eq
      walk_at "go"
      refine w_join0 (SqL.of upd_same) (by omega) ?_
      refine q _ _ ?_ (by omega) (hP3.new ht) (kp3.trans (Kp.of_same (same_new ht)))
      intro h0
      rw [h0] at hfl
      have : cs = [] := List.eq_nil_of_length_eq_zero (by rw [← hpl, ← hfl]; rfl)
      exact hne (by omega) this
abbrev s__law_text : Stmt := topS 10
theorem sc__law_text : FnScope ["pool", "letters", "many", "part", "turn"] ["pool", "letters", "many"] (defScope s__law_text) := ⟨rfl, rfl, rfl, by decide +kernel, rfl, by decide +kernel, by decide +kernel⟩
theorem ok__law_text (c__law_draw : Cal P w K mg base 1 "_law_draw" spDraw) (F : At K mg "_law_text" s__law_text) (b_range : mg "range" = none) (b_len : mg "len" = none) : Cal P w K mg base 2 "_law_text" spText := by
  refine F.cal sc__law_text (fun vs H Q E h => ?_) (fun _ _ _ _ _ _ us hl => match us, hl with | [_, _, _], _ => rfl) (fun f cdv A outer s H vs Q E hr h => ?_)
  · obtain ⟨p, g, l, m, rfl, _⟩ := h
    rfl
  · obtain ⟨p, g, l, m, rfl, hP, hl0, hl6, m0, m1, q⟩ := h
    have hlp : 0 < l.length := List.length_pos_iff.mpr hl0
    refine ⟨_, (pss_cons (ps_set (i := 3) sc__law_text.nd rfl (.inl rfl) (pe_ix ix_S (pv 1) (pe_c c__law_draw hr (by decide) (by rfl) (pa_cons (pv 0) (pa_cons (pe_callB call_lenS (by rfl) b_len PySem.boot_len (pa_cons (pv 1) pa_nil)) pa_nil))) (fun _ _ => rfl)))
      (pss_cons (ps_for PassesOwn.never rfl (pi_range1 (by rfl) b_range (pa_cons (pe_c c__law_draw hr (by decide) (by rfl) (pa_cons (pv 0) (pa_cons pe_int pa_nil))) pa_nil)) (pg_name (i := 4) sc__law_text.nd rfl (.inl rfl))
      (pss_one (ps_set (i := 3) sc__law_text.nd rfl (.inl rfl) (pe_op op_addS (pv 3) (pe_ix ix_S (pv 1) (pe_c c__law_draw hr (by decide) (by rfl) (pa_cons (pv 0) (pa_cons (pe_callB call_lenS (by rfl) b_len PySem.boot_len (pa_cons (pv 1) pa_nil)) pa_nil))) (fun _ _ => rfl))))))
      (pss_cons (ps_if (pt_cmpR op_lt (pv 2) pe_int (nomark _)) (pss_one (ps_ret (pv 3))) pss_nil)
      (pss_one (ps_ret (pe_slice sl_S (pe_op op_mulS (pv 3) (pe_op op_add (pe_op op_fdiv (pv 2) (pe_callB call_lenS (by rfl) b_len PySem.boot_len (pa_cons (pv 3) pa_nil))) pe_int)) po_none (po_some (pv 2)))))))), ?_⟩
    refine st_is (σ' := start _ _) (σ := [some (.ref p), some (vS l), some (.int m), none, none]) rfl ?_
    try dsimp only [cxOf, Cx.nox, Cx.wish]
    walk_at "go"
    refine ⟨p, g, _, rfl, hP, by omega, by omega, fun H1 r h0 h1 hP1 kp1 => ?_⟩
    obtain ⟨ch, hch⟩ := atI_in h0 h1
    refine w_ixS (by omega) hch ?_
    walk_at "go"
    refine ⟨p, g, _, rfl, hP1, by omega, by omega, fun H2 r2 h20 h21 hP2 kp2 => ?_⟩
    walk_at "go"
    refine w_rng1 (by omega) (by omega) (fun i σ H' => ∃ t v4, σ = [some (.ref p), some (vS l), some (.int m), some (vS t), v4] ∧ t.length = i + 1 ∧ Pool p g H' ∧ Kp p g H H')
      ⟨[ch], _, rfl, rfl, hP2, kp1.trans kp2⟩ ?_ ?_
    · rintro i σ H3 hi ⟨t, v4, rfl, htl, hP3, kp3⟩
      walk_at "go"
      refine ⟨p, g, _, rfl, hP3, by omega, by omega, fun H4 r4 h40 h41 hP4 kp4 => ?_⟩
      obtain ⟨ch4, hch4⟩ := atI_in h40 h41
      refine w_ixS (by omega) hch4 ?_
      refine w_addS (by rw [List.length_singleton]; omega) ?_
      walk_at "go"
      exact ⟨t ++ [ch4], _, rfl, by rw [List.length_append, htl]; rfl, hP4, kp3.trans kp4⟩
    · rintro σ H3 ⟨t, v4, rfl, htl, hP3, kp3⟩
      walk_at "go"
      refine ite2 (fun e => ?_) (fun e => ?_)
      · have em : m < 0 := of_decide_eq_true e
        walk_at "go"
        exact q _ _ (fun _ => by omega) (fun h => by omega) hP3 kp3
      · have em : ¬ m < 0 := fun h => e (decide_eq_true h)
        walk_at "go"
        walk_at "go"
        have hd1 : 0 ≤ m / (t.length : Int) := Int.ediv_nonneg (by omega) (by omega)
        have hd2 : m / (t.length : Int) ≤ m := Int.ediv_le_self _ (by omega)
        have hd3 : t.length * (m / (t.length : Int) + 1).toNat ≤ 16777216 := by
          have h1 : (m / (t.length : Int) + 1).toNat ≤ 2001 := by omega
          have h2 : t.length ≤ 41 := by omega
          have := Nat.mul_le_mul h2 h1
          omega
        refine w_mulS (by omega) (by omega) hd3 ?_
        walk_at "go"
        refine w_slS (by rw [rep_len, Nat.mul_comm]; exact hd3) ?_
        exact q _ _ (fun h => absurd h em) (fun h => cut_rep_len (by omega) h) hP3 kp3
abbrev s__law_names : Stmt := topS 11
theorem sc__law_names : FnScope ["pool", "names", "first", "many"] ["pool"] (defScope s__law_names) := ⟨rfl, rfl, rfl, by decide +kernel, rfl, by decide +kernel, by decide +kernel⟩
theorem ok__law_names (c__law_draw : Cal P w K mg base 1 "_law_draw" spDraw) (F : At K mg "_law_names" s__law_names) : Cal P w K mg base 2 "_law_names" spNames := by
  refine F.cal sc__law_names (fun vs H Q E h => ?_) (fun _ _ _ _ _ _ us hl => match us, hl with | [_], _ => rfl) (fun f cdv A outer s H vs Q E hr h => ?_)
  · obtain ⟨p, g, rfl, _⟩ := h
    rfl
  · obtain ⟨p, g, rfl, hP, q⟩ := h
    refine ⟨_, (pss_cons (ps_set (i := 1) sc__law_names.nd rfl (.inl rfl) (pe_strL [65, 66, 67, 68, 69, 70, 71, 72, 73, 74, 75, 76, 77, 78, 79, 80, 81, 82, 83, 84, 85, 86, 87, 88, 89, 90] (by decide +kernel)))
      (pss_cons (ps_set (i := 2) sc__law_names.nd rfl (.inl rfl) (pe_c c__law_draw hr (by decide) (by rfl) (pa_cons (pv 0) (pa_cons pe_int pa_nil))))
      (pss_cons (ps_set (i := 3) sc__law_names.nd rfl (.inl rfl) (pe_ix ix_list (pe_lst (pa_cons pe_int (pa_cons pe_int (pa_cons pe_int pa_nil)))) (pe_c c__law_draw hr (by decide) (by rfl) (pa_cons (pv 0) (pa_cons pe_int pa_nil))) (fun _ _ => rfl)))
      (pss_one (ps_ret (pe_slice sl_S (pe_op op_addS (pv 1) (pv 1)) (po_some (pv 2)) (po_some (pe_op op_add (pv 2) (pv 3))))))))), ?_⟩
    refine st_is (σ' := start _ _) (σ := [some (.ref p), none, none, none]) rfl ?_
    try dsimp only [cxOf, Cx.nox, Cx.wish]
    walk_at "go"
    refine ⟨p, g, _, rfl, hP, by omega, by omega, fun H1 r h0 h1 hP1 kp1 => ?_⟩
    walk_at "go"
    refine w_new (by simp) fun t ht => ?_
    walk_at "go"
    refine ⟨p, g, _, rfl, hP1.new ht, by omega, by omega, fun H2 r2 h20 h21 hP2 kp2 => ?_⟩
    have ht2 : H2 t = some (.lst [.int 1, .int 3, .int 26]) := kp2 _ _ (hP1.ne1 ht) (hP1.ne2 ht) upd_same
    obtain ⟨k, hk, hk1, hk2⟩ : ∃ k : Int, atI [V.int 1, V.int 3, V.int 26] r2 = some (.int k) ∧ 1 ≤ k ∧ k ≤ 26 := by
      have h3 : r2 = 0 ∨ r2 = 1 ∨ r2 = 2 := by omega
      rcases h3 with rfl | rfl | rfl
      · exact ⟨1, rfl, by omega, by omega⟩
      · exact ⟨3, rfl, by omega, by omega⟩
      · exact ⟨26, rfl, by omega, by omega⟩
    refine w_ixL (SqL.of ht2) hk ?_
    walk_at "go"
    obtain ⟨n, e⟩ := Int.eq_ofNat_of_zero_le h0
    obtain ⟨j, e2⟩ := Int.eq_ofNat_of_zero_le (show 0 ≤ k by omega)
    subst e e2
    refine q _ _ ?_ ?_ ?_ hP2 (kp1.trans ((Kp.of_same (same_new ht)).trans kp2))
    · have e3 : (n : Int) + (j : Int) = ((n + j : Nat) : Int) := by omega
      rw [e3, cutL_nn _ (by omega) (by simp; omega)]
      intro h
      have := congrArg List.length h
      simp at this
      omega
    · have e3 : (n : Int) + (j : Int) = ((n + j : Nat) : Int) := by omega
      rw [e3, cutL_nn _ (by omega) (by simp; omega), List.length_take, List.length_drop]
      simp
      omega
    · intro c hc
      unfold cutL at hc
      have h1 := List.mem_of_mem_drop (List.mem_of_mem_take hc)
      intro h46
      subst h46
      revert h1
      decide
abbrev s__law_marks : Stmt := topS 12
theorem sc__law_marks : FnScope ["pool", "names", "many", "thin", "part", "turn"] ["pool", "names", "many"] (defScope s__law_marks) := ⟨rfl, rfl, rfl, by decide +kernel, rfl, by decide +kernel, by decide +kernel⟩
theorem ok__law_marks (c__law_draw : Cal P w K mg base 1 "_law_draw" spDraw) (F : At K mg "_law_marks" s__law_marks) (b_range : mg "range" = none) (b_len : mg "len" = none) (b_min : mg "min" = none) : Cal P w K mg base 2 "_law_marks" spMarks := by
  refine F.cal sc__law_marks (fun vs H Q E h => ?_) (fun _ _ _ _ _ _ us hl => match us, hl with | [_, _, _], _ => rfl) (fun f cdv A outer s H vs Q E hr h => ?_)
  · obtain ⟨p, g, l, m, rfl, _⟩ := h
    rfl
  · obtain ⟨p, g, l, m, rfl, hP, hl0, hl52, m0, m1, q⟩ := h
    have hlp : 0 < l.length := List.length_pos_iff.mpr hl0
    refine ⟨_, (pss_cons (ps_set (i := 3) sc__law_marks.nd rfl (.inl rfl) (pe_ix ix_list (pe_lst (pa_cons pe_int (pa_cons pe_int (pa_cons pe_int (pa_cons pe_int pa_nil))))) (pe_c c__law_draw hr (by decide) (by rfl) (pa_cons (pv 0) (pa_cons pe_int pa_nil))) (fun _ _ => rfl)))
      (pss_cons (ps_set (i := 4) sc__law_marks.nd rfl (.inl rfl) (pe_strL [] (by decide +kernel)))
      (pss_cons (ps_for PassesOwn.never rfl (pi_range1 (by rfl) b_range (pa_cons (pe_op op_add pe_int (pe_callB (call_minI rfl) (by rfl) b_min (by decide +kernel) (pa_cons (pv 2) (pa_cons (pe_op op_add pe_int (pe_c c__law_draw hr (by decide) (by rfl) (pa_cons (pv 0) (pa_cons pe_int pa_nil)))) pa_nil)))) pa_nil)) (pg_name (i := 5) sc__law_marks.nd rfl (.inl rfl))
      (pss_one (ps_if (pt_cmpR op_eqI (pe_c c__law_draw hr (by decide) (by rfl) (pa_cons (pv 0) (pa_cons (pe_op op_add pe_int (pv 3)) pa_nil))) pe_int (nomark _)) (pss_one (ps_set (i := 4) sc__law_marks.nd rfl (.inl rfl) (pe_op op_addS (pv 4) (pe_ix ix_S (pv 1) (pe_c c__law_draw hr (by decide) (by rfl) (pa_cons (pv 0) (pa_cons (pe_callB call_lenS (by rfl) b_len PySem.boot_len (pa_cons (pv 1) pa_nil)) pa_nil))) (fun _ _ => rfl))))) (pss_one (ps_set (i := 4) sc__law_marks.nd rfl (.inl rfl) (pe_op op_addS (pv 4) (pe_strL [46] (by decide +kernel))))))))
      (pss_one (ps_ret (pe_slice sl_S (pe_op op_mulS (pv 4) (pe_op op_add (pe_op op_fdiv (pv 2) (pe_callB call_lenS (by rfl) b_len PySem.boot_len (pa_cons (pv 4) pa_nil))) pe_int)) po_none (po_some (pv 2)))))))), ?_⟩
    refine st_is (σ' := start _ _) (σ := [some (.ref p), some (vS l), some (.int m), none, none, none]) rfl ?_
    try dsimp only [cxOf, Cx.nox, Cx.wish]
    walk_at "go"
    refine w_new (by simp) fun t ht => ?_
    walk_at "go"
    refine ⟨p, g, _, rfl, hP.new ht, by omega, by omega, fun H2 r2 h20 h21 hP2 kp2 => ?_⟩
    have ht2 : H2 t = some (.lst [.int 0, .int 1, .int 2, .int 6]) := kp2 _ _ (hP.ne1 ht) (hP.ne2 ht) upd_same
    obtain ⟨k, hk, hk1, hk2⟩ : ∃ k : Int, atI [V.int 0, V.int 1, V.int 2, V.int 6] r2 = some (.int k) ∧ 0 ≤ k ∧ k ≤ 6 := by
      have h3 : r2 = 0 ∨ r2 = 1 ∨ r2 = 2 ∨ r2 = 3 := by omega
      rcases h3 with rfl | rfl | rfl | rfl
      · exact ⟨0, rfl, by omega, by omega⟩
      · exact ⟨1, rfl, by omega, by omega⟩
      · exact ⟨2, rfl, by omega, by omega⟩
      · exact ⟨6, rfl, by omega, by omega⟩
    refine w_ixL (SqL.of ht2) hk ?_
    have kp2' : Kp p g H H2 := (Kp.of_same (same_new ht)).trans kp2
    walk_at "go"
    refine ⟨p, g, _, rfl, hP2, by omega, by omega, fun H3 r3 h30 h31 hP3 kp3 => ?_⟩
    walk_at "go"
    refine w_rng1 (by omega) (by omega) (fun i σ H' => ∃ s v5, σ = [some (.ref p), some (vS l), some (.int m), some (.int k), some (vS s), v5] ∧ s.length = i ∧ Pool p g H' ∧ Kp p g H H')
      ⟨[], _, rfl, rfl, hP3, kp2'.trans kp3⟩ ?_ ?_
    · rintro i σ H4 hi ⟨s, v5, rfl, hsl, hP4, kp4⟩
      walk_at "go"
      refine ⟨p, g, _, rfl, hP4, by omega, by omega, fun H5 r5 h50 h51 hP5 kp5 => ?_⟩
      walk_at "go"
      refine ite2 (fun e => ?_) (fun e => ?_)
      · walk_at "go"
        refine ⟨p, g, _, rfl, hP5, by omega, by omega, fun H6 r6 h60 h61 hP6 kp6 => ?_⟩
        obtain ⟨ch, hch⟩ := atI_in h60 h61
        refine w_ixS (by omega) hch ?_
        refine w_addS (by rw [List.length_singleton]; omega) ?_
        walk_at "go"
        exact ⟨s ++ [ch], _, rfl, by rw [List.length_append, hsl]; rfl, hP6, (kp4.trans kp5).trans kp6⟩
      · walk_at "go"
        exact ⟨s ++ [46], _, rfl, by rw [List.length_append, hsl]; rfl, hP5, kp4.trans kp5⟩
    · rintro σ H4 ⟨s, v5, rfl, hsl, hP4, kp4⟩
      have hs1 : 1 ≤ s.length := by omega
      have hs2 : s.length ≤ 61 := by omega
      walk_at "go"
      walk_at "go"
      have hd1 : 0 ≤ m / (s.length : Int) := Int.ediv_nonneg (by omega) (by omega)
      have hd2 : m / (s.length : Int) ≤ m := Int.ediv_le_self _ (by omega)
      have hd3 : s.length * (m / (s.length : Int) + 1).toNat ≤ 16777216 := by
        have h1 : (m / (s.length : Int) + 1).toNat ≤ 2001 := by omega
        have := Nat.mul_le_mul hs2 h1
        omega
      refine w_mulS (by omega) (by omega) hd3 ?_
      walk_at "go"
      refine w_slS (by rw [rep_len, Nat.mul_comm]; exact hd3) ?_
      exact q _ _ (cut_rep_len hs1 (by omega)) hP4 kp4
abbrev s__law_cut : Stmt := topS 13
theorem sc__law_cut : FnScope ["text", "marks", "row", "since", "at"] ["text", "marks"] (defScope s__law_cut) := ⟨rfl, rfl, rfl, by decide +kernel, rfl, by decide +kernel, by decide +kernel⟩
theorem ok__law_cut (F : At K mg "_law_cut" s__law_cut) (b_range : mg "range" = none) (b_len : mg "len" = none) (b_tuple : mg "tuple" = none) : Cal P w K mg base 1 "_law_cut" (spCut K) := by
  refine F.cal sc__law_cut (fun vs H Q E h => ?_) (fun _ _ _ _ _ _ us hl => match us, hl with | [_, _], _ => rfl) (fun f cdv A outer s H vs Q E hr h => ?_)
  · obtain ⟨x, y, rfl, _⟩ := h
    rfl
  · obtain ⟨text, marks, rfl, hz1, hz2, q⟩ := h
    refine ⟨_, (pss_cons (ps_set (i := 2) sc__law_cut.nd rfl (.inl rfl) (pe_lst pa_nil))
      (pss_cons (ps_set (i := 3) sc__law_cut.nd rfl (.inl rfl) pe_int)
      (pss_cons (ps_for PassesOwn.never rfl (pi_range1 (by rfl) b_range (pa_cons (pe_callB call_lenS (by rfl) b_len PySem.boot_len (pa_cons (pv 0) pa_nil)) pa_nil)) (pg_name (i := 4) sc__law_cut.nd rfl (.inl rfl))
      (pss_one (ps_if (pt_not (pt_cmpR op_eqS (pe_ix ix_S (pv 1) (pv 4) (fun _ _ => rfl)) (pe_strL [46] (by decide +kernel)) (nomark _))) (pss_cons (ps_expr (pe_bm PySem.F.plainAttrs_list PySem.F.slot_list_append PySem.F.type_list_append mt_append (pv 2) (pa_cons (pe_tup (pa_cons (pe_slice sl_S (pv 0) (po_some (pv 3)) (po_some (pe_op op_add (pv 4) pe_int))) (pa_cons (pe_ix ix_S (pv 1) (pv 4) (fun _ _ => rfl)) pa_nil))) pa_nil)))
      (pss_one (ps_set (i := 3) sc__law_cut.nd rfl (.inl rfl) (pe_op op_add (pv 4) pe_int)))) pss_nil)))
      (pss_one (ps_ret (pe_tup (pa_cons (pe_callTy call_tupL (by rfl) b_tuple (by decide +kernel) (pa_cons (pv 2) pa_nil)) (pa_cons (pe_slice sl_S (pv 0) (po_some (pv 3)) po_none) pa_nil)))))))), ?_⟩
    refine st_is (σ' := start _ _) (σ := [some (vS text), some (vS marks), none, none, none]) rfl ?_
    try dsimp only [cxOf, Cx.nox, Cx.wish]
    walk_at "go"
    refine w_new (by simp) fun c hc => ?_
    walk_at "go"
    refine w_rng1 (by omega) (by omega) (fun i σ H' => ∃ xs v4, i ≤ marks.length ∧ σ = [some (vS text), some (vS marks), some (.ref c), some (.int (begAt marks i : Nat)), v4] ∧ H' c = some (.lst xs) ∧ Reps K H' ((rowAt text marks i).map pairD) xs ∧ Same H H')
      ⟨[], _, Nat.zero_le _, rfl, upd_same, Reps.nil, same_new hc⟩ ?_ ?_
    · rintro i σ H1 hi ⟨xs, v4, hi1, rfl, hcs, hrep, sm⟩
      have hi2 : i < marks.length := by omega
      have hm : atI marks (i : Int) = some marks[i] := atI_nat (List.getElem?_eq_getElem hi2)
      have hmi : marks[i]? = some marks[i] := List.getElem?_eq_getElem hi2
      walk_at "go"
      by_cases h46 : marks[i] = 46
      · have e1 : decide ([marks[i]] = [46]) = true := by rw [h46]; rfl
        rw [e1]
        walk_at "go"
        have hm46 : marks[i]? = some 46 := by rw [hmi, h46]
        refine ⟨xs, some (.int (i : Nat)), hi2, ?_, hcs, ?_, sm⟩
        · rw [begAt_s, if_pos hm46]
          rfl
        · rw [rowAt_s, if_pos hm46]
          exact hrep
      · have e1 : decide ([marks[i]] = [46]) = false := by
          rw [decide_eq_false_iff_not]
          intro h
          exact h46 (List.cons.inj h).1
        rw [e1]
        have hne : ¬ marks[i]? = some 46 := by
          rw [hmi]
          intro h
          exact h46 (Option.some.inj h)
        walk_at "go"
        refine w_new (by simp) fun T hT => ?_
        have hcT : c ≠ T := ne_of_none hcs hT
        have hlen : xs.length < 16777216 := by
          have h1 := hrep.len
          have h2 := rowAt_len text marks i
          rw [List.length_map] at h1
          omega
        have hcs1 : upd H1 T (.tup [vS (cutL text (some (begAt marks i : Nat)) (some ((i : Nat) + 1 : Int))), vS [marks[i]]]) c = some (.lst xs) := get_ne hcT hcs
        walk_at "go"
        have hgd : marks.getD i 0 = marks[i] := by rw [List.getD_eq_getElem?_getD, hmi]; rfl
        have htx : Tx H1 (upd (upd H1 T (.tup [vS (cutL text (some (begAt marks i : Nat)) (some ((i : Nat) + 1 : Int))), vS [marks[i]]])) c (.lst (xs ++ [.ref T]))) := by walk_at "tx"
        refine ⟨_, some (.int (i : Nat)), hi2, ?_, upd_same, ?_, ?_⟩
        · rw [begAt_s, if_neg hne]
          have e1 : (((i + 1 : Nat) : Nat) : Int) = (i : Int) + 1 := by omega
          rw [e1]
          rfl
        · rw [rowAt_s, if_neg hne, List.map_append, hgd]
          exact Reps.snoc (Reps.tx htx _ _ hrep) (Rep.tup (.inl (.inl (get_ne hcT.symm upd_same))) (Reps.cons Rep.str (Reps.cons Rep.str Reps.nil)))
        · walk_at "same"
    · rintro σ H1 ⟨xs, v4, hi, rfl, hcs, hrep, sm⟩
      have hb := begAt_le marks marks.length
      rw [Int.toNat_natCast, hz1] at hrep ⊢
      walk_at "go"
      refine w_tupL (SqL.of hcs) fun l hl => ?_
      walk_at "go"
      rw [cutL_from _ (by omega)]
      refine w_new (by simp) fun l2 hl2 => ?_
      have hl12 : l ≠ l2 := ne_of_none upd_same hl2
      exact q _ _ ((sm.trans (same_new hl)).trans (same_new hl2)) (Rep.tup (SqT.of upd_same) (Reps.cons (Rep.tup (SqT.of (get_ne hl12 upd_same)) (Reps.tx (Tx.new (Tx.new (Tx.refl _) hl) hl2) _ _ hrep)) (Reps.cons Rep.str Reps.nil)))
abbrev s__law_of_row : Stmt := topS 14
theorem sc__law_of_row : FnScope ["row", "marks", "text", "piece", "name"] ["row"] (defScope s__law_of_row) := ⟨rfl, rfl, rfl, by decide +kernel, rfl, by decide +kernel, by decide +kernel⟩
theorem ok__law_of_row (F : At K mg "_law_of_row" s__law_of_row) (b_len : mg "len" = none) : Cal P w K mg base 1 "_law_of_row" (spOfRow K) := by
  refine F.cal sc__law_of_row (fun vs H Q E h => ?_) (fun _ _ _ _ _ _ us hl => match us, hl with | [_], _ => rfl) (fun f cdv A outer s H vs Q E hr h => ?_)
  · obtain ⟨x, y, rfl, _⟩ := h
    rfl
  · obtain ⟨x, r, rfl, hrep, hz, hp, q⟩ := h
    obtain ⟨a, xs, rfl, hq, hr2⟩ := rep_tup hrep
    refine ⟨_, (pss_cons (ps_set (i := 1) sc__law_of_row.nd rfl (.inl rfl) (pe_strL [] (by decide +kernel)))
      (pss_cons (ps_set (i := 2) sc__law_of_row.nd rfl (.inl rfl) (pe_strL [] (by decide +kernel)))
      (pss_cons (ps_for PassesOwn.never rfl (pi_tup (pv 0)) (pg_tup rfl (pgs_cons (pg_name (i := 3) sc__law_of_row.nd rfl (.inl rfl)) (pgs_cons (pg_name (i := 4) sc__law_of_row.nd rfl (.inl rfl)) pgs_nil)))
      (pss_cons (ps_set (i := 1) sc__law_of_row.nd rfl (.inl rfl) (pe_op op_addS (pe_op op_addS (pv 1) (pe_op op_mulS (pe_strL [46] (by decide +kernel)) (pe_op op_sub (pe_callB call_lenS (by rfl) b_len PySem.boot_len (pa_cons (pv 3) pa_nil)) pe_int))) (pv 4)))
      (pss_one (ps_set (i := 2) sc__law_of_row.nd rfl (.inl rfl) (pe_op op_addS (pv 2) (pv 3))))))
      (pss_one (ps_ret (pe_tup (pa_cons (pv 1) (pa_cons (pv 2) pa_nil)))))))), ?_⟩
    refine st_is (σ' := start _ _) (σ := [some (.ref a), none, none, none, none]) rfl ?_
    try dsimp only [cxOf, Cx.nox, Cx.wish]
    walk_at "go"
    have len1 : xs.length = r.length := by
      have := hr2.len
      rw [List.length_map] at this
      exact this
    refine w_tupQ hq (fun i σ H' => ∃ v4 v5, σ = [some (.ref a), some (vS (rowMarks (r.take i))), some (vS (rowText (r.take i))), v4, v5] ∧ (rowMarks (r.take i)).length ≤ 100 * i ∧ (rowText (r.take i)).length ≤ 100 * i ∧ H' = H)
      ⟨_, _, rfl, Nat.le_refl _, Nat.le_refl _, rfl⟩ (fun i σ H' _ ⟨_, _, _, _, _, e⟩ => by rw [e]; exact hq) ?_ ?_
    · rintro i x σ H1 hx ⟨v4, v5, rfl, hl1, hl2, rfl⟩
      have hi : i < r.length := by
        have := (List.getElem?_eq_some_iff.mp hx).1
        omega
      obtain ⟨u, hu, hR⟩ := hr2.get (d := pairD r[i]) (by rw [List.getElem?_map, List.getElem?_eq_getElem hi]; rfl)
      rw [hx] at hu
      have eu : x = u := Option.some.inj hu
      subst eu
      obtain ⟨b, ys, rfl, hb, hys⟩ := rep_tup hR
      obtain ⟨y1, ys1, rfl, hy1, hys1⟩ := reps_cons hys
      obtain ⟨y2, ys2, rfl, hy2, hys2⟩ := reps_cons hys1
      have e1 := rep_str hy1
      have e2 := rep_str hy2
      have e3 := reps_nil hys2
      subst e1 e2 e3
      obtain ⟨hp1, hp2, hp3⟩ := hp r[i] (List.getElem_mem hi)
      have hrl : (rep ((r[i].1.length : Int) - 1) [46]).length ≤ 100 := by
        rw [rep_len, List.length_singleton]
        omega
      walk_at "go"
      walk_at "go"
      rw [List.take_succ_eq_append_getElem hi, rowMarks_snoc, rowText_snoc]
      refine ⟨some (vS r[i].1), some (vS r[i].2), ?_, ?_, ?_, rfl⟩
      · show _ = [some (V.ref a), some (vS (rowMarks (r.take i) ++ (rep ((r[i].1.length : Int) - 1) [46] ++ r[i].2))), some (vS (rowText (r.take i) ++ r[i].1)), _, _]
        rw [← List.append_assoc]
        rfl
      · unfold pieceMarks
        rw [List.length_append, List.length_append, rep_len, List.length_singleton]
        omega
      · rw [List.length_append]
        omega
    · rintro σ H1 ⟨v4, v5, rfl, hl1, hl2, rfl⟩
      rw [len1, List.take_length]
      walk_at "go"
      refine w_new (by simp) fun l hl => ?_
      exact q _ _ (same_new hl) (Rep.tup (SqT.of upd_same) (Reps.cons Rep.str (Reps.cons Rep.str Reps.nil)))
abbrev s__law_cut_right : Stmt := topS 15
theorem sc__law_cut_right : FnScope ["text", "marks", "asked", "row", "loose", "seen"] ["text", "marks", "asked"] (defScope s__law_cut_right) := ⟨rfl, rfl, rfl, by decide +kernel, rfl, by decide +kernel, by decide +kernel⟩
theorem ok__law_cut_right (c__law_cut : Cal P w K mg base 1 "_law_cut" (spCut K)) (c__law_same : Cal P w K mg base 1 "_law_same" (spSame K)) (c_row_of : Cal P w K mg base 1 "row_of" (spRowOf K)) (c_loose_of : Cal P w K mg base 1 "loose_of" spLooseOf)
    (c_row_text : Cal P w K mg base 1 "row_text" (spRowText K)) (c_row_marks : Cal P w K mg base 1 "row_marks" (spRowMarks K)) (F : At K mg "_law_cut_right" s__law_cut_right) (b_len : mg "len" = none) : Cal P w K mg base 2 "_law_cut_right" (spRight K) := by
  refine F.cal sc__law_cut_right (fun vs H Q E h => ?_) (fun _ _ _ _ _ _ us hl => match us, hl with | [_, _, _], _ => rfl) (fun f cdv A outer s H vs Q E hr h => ?_)
  · obtain ⟨x, y, q, a, b, c, rfl, _⟩ := h
    rfl
  · obtain ⟨text, marks, qa, a, b, c, rfl, hz1, hz2, hqa, q⟩ := h
    refine ⟨_, (pss_cons (ps_asg (pe_c c__law_cut hr (by decide) (by rfl) (pa_cons (pv 0) (pa_cons (pv 1) pa_nil))) (pg_tup rfl (pgs_cons (pg_name (i := 3) sc__law_cut_right.nd rfl (.inl rfl)) (pgs_cons (pg_name (i := 4) sc__law_cut_right.nd rfl (.inl rfl)) pgs_nil))))
      (pss_cons (ps_if (PW.pt (pw_or (pt_not (pt_val (pe_c c__law_same hr (by decide) (by rfl) (pa_cons (pe_c c_row_of hr (by decide) (by rfl) (pa_cons (pv 0) (pa_cons (pv 1) pa_nil))) (pa_cons (pv 3) pa_nil))))) (pw_or1 (pt_not (pt_val (pe_c c__law_same hr (by decide) (by rfl) (pa_cons (pe_c c_loose_of hr (by decide) (by rfl) (pa_cons (pv 0) (pa_cons (pv 1) pa_nil))) (pa_cons (pv 4) pa_nil)))))))) (pss_one (ps_ret pe_bl)) pss_nil)
      (pss_cons (ps_if (pt_tru (pv 4) (fun _ => rfl)) (pss_one (ps_asg (pe_op op_add (pe_ix ix_list (pv 2) pe_int (fun _ _ => rfl)) pe_int) (pg_sub (pv 2) pe_int set_list))) (pss_one (ps_asg (pe_op op_add (pe_ix ix_list (pv 2) pe_int (fun _ _ => rfl)) pe_int) (pg_sub (pv 2) pe_int set_list))))
      (pss_cons (ps_if (pt_tru (pv 3) (fun _ => rfl)) (pss_one (ps_asg (pe_op op_add (pe_ix ix_list (pv 2) pe_int (fun _ _ => rfl)) pe_int) (pg_sub (pv 2) pe_int set_list))) pss_nil)
      (pss_cons (ps_if (pt_cmpR op_le (pe_callB call_lenQ (by rfl) b_len PySem.boot_len (pa_cons (pv 3) pa_nil)) pe_int (nomark _)) (pss_cons (ps_set (i := 5) sc__law_cut_right.nd rfl (.inl rfl) (pe_slice sl_S (pv 0) po_none (po_some (pe_op op_sub (pe_callB call_lenS (by rfl) b_len PySem.boot_len (pa_cons (pv 0) pa_nil)) (pe_callB call_lenS (by rfl) b_len PySem.boot_len (pa_cons (pv 4) pa_nil))))))
      (pss_one (ps_if (PW.pt (pw_or (pt_not (pt_val (pe_c c__law_same hr (by decide) (by rfl) (pa_cons (pe_c c_row_text hr (by decide) (by rfl) (pa_cons (pv 3) pa_nil)) (pa_cons (pv 5) pa_nil))))) (pw_or1 (pt_not (pt_val (pe_c c__law_same hr (by decide) (by rfl) (pa_cons (pe_c c_row_marks hr (by decide) (by rfl) (pa_cons (pv 3) pa_nil)) (pa_cons (pe_slice sl_S (pv 1) po_none (po_some (pe_callB call_lenS (by rfl) b_len PySem.boot_len (pa_cons (pv 5) pa_nil)))) pa_nil)))))))) (pss_one (ps_ret pe_bl)) pss_nil))) pss_nil)
      (pss_one (ps_ret pe_bl))))))), ?_⟩
    refine st_is (σ' := start _ _) (σ := [some (vS text), some (vS marks), some (.ref qa), none, none, none]) rfl ?_
    try dsimp only [cxOf, Cx.nox, Cx.wish]
    walk_at "go"
    refine ⟨text, marks, rfl, hz1, by omega, fun H1 v sm1 hrep => ?_⟩
    generalize hrow : rowAt text marks marks.length = row at hrep q
    generalize hbeg : begAt marks marks.length = bg at hrep q
    have hbl : bg ≤ marks.length := by rw [← hbeg]; exact begAt_le _ _
    have hrl : row.length ≤ marks.length := by rw [← hrow]; exact rowAt_len _ _ _
    have hrt : rowText row = text.take bg := by rw [← hrow, ← hbeg]; exact rowText_at hz1 _ (Nat.le_refl _)
    have hrm : rowMarks row = marks.take bg := by rw [← hrow, ← hbeg]; exact rowMarks_at hz1 _ (Nat.le_refl _)
    obtain ⟨t, xs, rfl, ht, hxs⟩ := rep_tup hrep
    obtain ⟨v1, xs1, rfl, hv1, hxs1⟩ := reps_cons hxs
    obtain ⟨v2, xs2, rfl, hv2, hxs2⟩ := reps_cons hxs1
    have e2 := rep_str hv2
    have e3 := reps_nil hxs2
    subst e2 e3
    walk_at "go"
    refine ⟨text, marks, rfl, by omega, by omega, fun H2 v3 sm2 hrep2 => ?_⟩
    rw [hrow] at hrep2
    walk_at "go"
    have hsz := rowD_size row
    refine ⟨v3, v1, rowD row, rfl, hrep2, Rep.tx (Tx.of_same sm2) _ _ hv1, by omega, fun H3 sm3 => ?_⟩
    walk_at "go"
    refine ⟨text, marks, rfl, hz1, by omega, fun H4 sm4 => ?_⟩
    rw [hbeg]
    walk_at "go"
    refine ⟨vS (text.drop bg), vS (text.drop bg), .str (text.drop bg), rfl, Rep.str, Rep.str, by simp [D.size], fun H5 sm5 => ?_⟩
    have sm15 : Same H1 H5 := ((sm2.trans sm3).trans sm4).trans sm5
    have sm05 : Same H H5 := sm1.trans sm15
    have hq5 := sm05 _ _ hqa
    obtain ⟨a1, xs, ex, ha1, hxs1⟩ := rep_tup hv1
    subst ex
    have tx15 := Tx.of_same sm15
    have hlx : xs.length = row.length := by
      have := hxs1.len
      rw [List.length_map] at this
      exact this
    have hX : (!xs.isEmpty) = (!row.isEmpty) := by
      cases xs <;> cases row <;> first | rfl | (simp at hlx)
    have hE : (!(text.drop bg).isEmpty) = decide (bg < marks.length) := by
      cases h : text.drop bg with
      | nil =>
        have h2 : (text.drop bg).length = 0 := by rw [h]; rfl
        rw [List.length_drop] at h2
        rw [decide_eq_false (by omega)]
        rfl
      | cons y r =>
        have h2 : 0 < (text.drop bg).length := by rw [h]; simp
        rw [List.length_drop] at h2
        rw [decide_eq_true (by omega)]
        rfl
    have hdl : (text.drop bg).length ≤ 16777216 := by rw [List.length_drop]; omega
    have hdn : (text.drop bg).length = text.length - bg := List.length_drop
    walk_at "go"
    rw [hE]
    have hpc : ∀ p ∈ row, p.1.length ≤ 100000 ∧ p.2.length ≤ 100000 := by
      intro p hp
      rw [← hrow] at hp
      have := rowAt_pieces text marks _ p hp
      omega
    have hseen : cutL text none (some ((text.length : Int) - ((text.drop bg).length : Int))) = text.take bg := by
      have e : (text.length : Int) - ((text.drop bg).length : Int) = (bg : Int) := by omega
      rw [e, cutL_to]
    have hseen2 : cutL marks none (some (((text.take bg).length : Nat) : Int)) = marks.take bg := by
      rw [cutL_to, List.length_take]
      congr 1
      omega
    have htl : (text.take bg).length ≤ 100000 := by rw [List.length_take]; omega
    have hml : (marks.take bg).length ≤ 100000 := by rw [List.length_take]; omega
    generalize decide (bg < marks.length) = k1 at q ⊢
    cases k1 <;> (
      walk_at "go"
      rw [hX]
      generalize (!row.isEmpty) = k2 at q ⊢
      cases k2 <;> (
        walk_at "go"
        refine ite2 (fun e => ?_) (fun e => ?_)
        · walk_at "go"
          rw [hseen]
          refine ⟨.ref a1, row, rfl, Rep.tx (by walk_at "tx") _ _ hv1, by omega, by rw [hrt]; exact htl, fun H6 sm6 => ?_⟩
          walk_at "go"
          refine ⟨_, _, .str (text.take bg), rfl, by rw [hrt]; exact Rep.str, Rep.str, by simp [D.size], fun H7 sm7 => ?_⟩
          walk_at "go"
          refine ⟨.ref a1, row, rfl, Rep.tx ((Tx.of_same (sm6.trans sm7))) _ _ (Rep.tx (by walk_at "tx") _ _ hv1), by omega, by rw [hrm]; exact hml, hpc, fun H8 sm8 => ?_⟩
          walk_at "go"
          rw [hseen2]
          refine ⟨_, _, .str (marks.take bg), rfl, by rw [hrm]; exact Rep.str, Rep.str, by simp [D.size], fun H9 sm9 => ?_⟩
          walk_at "go"
          have smz := ((sm6.trans sm7).trans sm8).trans sm9
          refine q _ (fun b o hb e => smz _ _ ?_) ?_
          · have e5 := sm05 b o e
            first
              | exact get_ne hb e5
              | exact get_ne hb (get_ne hb e5)
          · have h1 := smz _ _ upd_same
            simpa [b2] using h1
        · walk_at "go"
          refine q _ (fun b o hb e => ?_) ?_
          · have e5 := sm05 b o e
            first
              | exact get_ne hb e5
              | exact get_ne hb (get_ne hb e5)
          · have h1 := @upd_same
            simpa [b2] using upd_same))
abbrev s__law_row : Stmt := topS 16
theorem sc__law_row : FnScope ["pool", "letters", "names", "wide", "row", "longest", "source", "many", "turn", "since"] ["pool", "letters", "names", "wide"] (defScope s__law_row) := ⟨rfl, rfl, rfl, by decide +kernel, rfl, by decide +kernel, by decide +kernel⟩
theorem ok__law_row (c__law_draw : Cal P w K mg base 1 "_law_draw" spDraw) (c__law_text : Cal P w K mg base 2 "_law_text" spText) (F : At K mg "_law_row" s__law_row) (b_range : mg "range" = none) (b_len : mg "len" = none) (b_tuple : mg "tuple" = none) : Cal P w K mg base 3 "_law_row" (spRow K) := by
  refine F.cal sc__law_row (fun vs H Q E h => ?_) (fun _ _ _ _ _ _ us hl => match us, hl with | [_, _, _, _], _ => rfl) (fun f cdv A outer s H vs Q E hr h => ?_)
  · obtain ⟨p, g, l, m, wd, rfl, _⟩ := h
    rfl
  · obtain ⟨p, g, l, ns, wd, rfl, hP, hl0, hl6, hn0, hn52, hdot, q⟩ := h
    have hlp : 0 < ns.length := List.length_pos_iff.mpr hn0
    refine ⟨_, (pss_cons (ps_set (i := 4) sc__law_row.nd rfl (.inl rfl) (pe_lst pa_nil))
      (pss_cut (ps_set (i := 5) sc__law_row.nd rfl (.inl rfl) (pe_ifExp (pt_val (pv 3)) pe_int (pe_op op_add pe_int (pe_c c__law_draw hr (by decide) (by rfl) (pa_cons (pv 0) (pa_cons pe_int pa_nil))))))
      (pss_cons (ps_set (i := 6) sc__law_row.nd rfl (.inl rfl) (pe_c c__law_text hr (by decide) (by rfl) (pa_cons (pv 0) (pa_cons (pv 1) (pa_cons pe_int pa_nil)))))
      (pss_cut (ps_set (i := 7) sc__law_row.nd rfl (.inl rfl) (pe_ifExp (pt_val (pv 3)) (pe_op op_sub pe_int (pe_c c__law_draw hr (by decide) (by rfl) (pa_cons (pv 0) (pa_cons pe_int pa_nil)))) (pe_c c__law_draw hr (by decide) (by rfl) (pa_cons (pv 0) (pa_cons pe_int pa_nil)))))
      (pss_cons (ps_for PassesOwn.never rfl (pi_range1 (by rfl) b_range (pa_cons (pv 7) pa_nil)) (pg_name (i := 8) sc__law_row.nd rfl (.inl rfl))
      (pss_cons (ps_set (i := 9) sc__law_row.nd rfl (.inl rfl) (pe_c c__law_draw hr (by decide) (by rfl) (pa_cons (pv 0) (pa_cons pe_int pa_nil))))
      (pss_cons (ps_expr (pe_bm PySem.F.plainAttrs_list PySem.F.slot_list_append PySem.F.type_list_append mt_append (pv 4) (pa_cons (pe_tup (pa_cons (pe_slice sl_S (pv 6) (po_some (pv 9)) (po_some (pe_op op_add (pe_op op_add (pv 9) pe_int) (pe_c c__law_draw hr (by decide) (by rfl) (pa_cons (pv 0) (pa_cons (pv 5) pa_nil)))))) (pa_cons (pe_ix ix_S (pv 2) (pe_c c__law_draw hr (by decide) (by rfl) (pa_cons (pv 0) (pa_cons (pe_callB call_lenS (by rfl) b_len PySem.boot_len (pa_cons (pv 2) pa_nil)) pa_nil))) (fun _ _ => rfl)) pa_nil))) pa_nil)))
      (pss_one (ps_if (PW.pt (pw_and (pt_cmpR op_eqI (pe_c c__law_draw hr (by decide) (by rfl) (pa_cons (pv 0) (pa_cons pe_int pa_nil))) pe_int (nomark _)) (pw_and1 (pt_cmpR op_lt (pe_callB call_lenQ (by rfl) b_len PySem.boot_len (pa_cons (pv 4) pa_nil)) (pv 7) (nomark _))))) (pss_one (ps_expr (pe_bm PySem.F.plainAttrs_list PySem.F.slot_list_append PySem.F.type_list_append mt_append (pv 4) (pa_cons (pe_ix ix_list (pv 4) (pe_un un_neg pe_int) (fun _ _ => rfl)) pa_nil)))) pss_nil)))))
      (pss_one (ps_ret (pe_callTy call_tupL (by rfl) b_tuple (by decide +kernel) (pa_cons (pe_slice sl_list (pv 4) po_none (po_some pe_int)) pa_nil))))))))), ?_⟩
    refine st_is (σ' := start _ _) (σ := [some (.ref p), some (vS l), some (vS ns), some (.bl wd), none, none, none, none, none, none]) rfl ?_
    try dsimp only [cxOf, Cx.nox, Cx.wish]
    walk_at "go"
    refine w_new (by simp) fun c hc => ?_
    walk_at "go"
    have hcp := hP.ne1 hc
    have hcg := hP.ne2 hc
    have kp0 : Kp p g H (upd H c (.lst [])) := Kp.of_same (same_new hc)
    have hP0 : Pool p g (upd H c (.lst [])) := hP.new hc
    have hc0 : upd H c (.lst []) c = some (.lst []) := upd_same
    generalize upd H c (.lst []) = H0 at kp0 hP0 hc0 ⊢
    walk_at "go"
    refine w_cut (fun σ H' => ∃ L : Int, σ = [some (.ref p), some (vS l), some (vS ns), some (.bl wd), some (.ref c), some (.int L), none, none, none, none] ∧ 1 ≤ L ∧ L ≤ 33 ∧ Pool p g H' ∧ Kp p g H H' ∧ H' c = some (.lst [])) ?_ ?_
    · walk_at "go"
      cases wd
      · walk_at "go"
        refine ⟨p, g, _, rfl, hP0, by omega, by omega, fun H1 r h0 h1 hP1 kp1 => ?_⟩
        walk_at "go"
        exact ⟨1 + r, rfl, by omega, by omega, hP1, kp0.trans kp1, kp1 _ _ hcp hcg hc0⟩
      · walk_at "go"
        exact ⟨33, rfl, by omega, by omega, hP0, kp0, hc0⟩
    · rintro σ H1 ⟨L, rfl, hL1, hL2, hP1, kp1, hc1⟩
      walk_at "go"
      refine ⟨p, g, l, 100, rfl, hP1, hl0, hl6, by omega, by omega, fun H2 src _ hsrc hP2 kp2 => ?_⟩
      have hsl : src.length = 100 := by
        have := hsrc (by omega)
        omega
      have hc2 := kp2 _ _ hcp hcg hc1
      walk_at "go"
      refine w_cut (fun σ H' => ∃ m : Int, σ = [some (.ref p), some (vS l), some (vS ns), some (.bl wd), some (.ref c), some (.int L), some (vS src), some (.int m), none, none] ∧ 0 ≤ m ∧ m ≤ 60 ∧ Pool p g H' ∧ Kp p g H H' ∧ H' c = some (.lst [])) ?_ ?_
      · walk_at "go"
        cases wd
        · walk_at "go"
          refine ⟨p, g, _, rfl, hP2, by omega, by omega, fun H3 r h0 h1 hP3 kp3 => ?_⟩
          walk_at "go"
          exact ⟨r, rfl, by omega, by omega, hP3, (kp1.trans kp2).trans kp3, kp3 _ _ hcp hcg hc2⟩
        · walk_at "go"
          refine ⟨p, g, _, rfl, hP2, by omega, by omega, fun H3 r h0 h1 hP3 kp3 => ?_⟩
          walk_at "go"
          exact ⟨60 - r, rfl, by omega, by omega, hP3, (kp1.trans kp2).trans kp3, kp3 _ _ hcp hcg hc2⟩
      · rintro σ H3 ⟨m, rfl, hm1, hm2, hP3, kp3, hc3⟩
        walk_at "go"
        refine w_rng1 (by omega) (by omega) (fun i σ H' => ∃ rw xs v8 v9, σ = [some (.ref p), some (vS l), some (vS ns), some (.bl wd), some (.ref c), some (.int L), some (vS src), some (.int m), v8, v9] ∧ rw.length ≤ 2 * i ∧ GoodRow rw ∧ (∀ q ∈ rw, q.1.length ≤ 40) ∧ H' c = some (.lst xs) ∧ Reps K H' (rw.map pairD) xs ∧ Pool p g H' ∧ Kp p g H H')
          ⟨[], [], _, _, rfl, Nat.le_refl _, (fun _ h => nomatch h), (fun _ h => nomatch h), hc3, Reps.nil, hP3, kp3⟩ ?_ ?_
        · rintro i σ H4 hi ⟨rw', xs, v8, v9, rfl, hrl, hgood, hpl, hc4, hrep, hP4, kp4⟩
          walk_at "go"
          refine ⟨p, g, _, rfl, hP4, by omega, by omega, fun H5 r5 h50 h51 hP5 kp5 => ?_⟩
          have hc5 := kp5 _ _ hcp hcg hc4
          walk_at "go"
          refine ⟨p, g, _, rfl, hP5, by omega, by omega, fun H6 r6 h60 h61 hP6 kp6 => ?_⟩
          walk_at "go"
          refine ⟨p, g, _, rfl, hP6, by omega, by omega, fun H7 r7 h70 h71 hP7 kp7 => ?_⟩
          obtain ⟨ch, hch⟩ := atI_in h70 h71
          refine w_ixS (by omega) hch ?_
          walk_at "go"
          refine w_new (by simp) fun T hT => ?_
          have kp47 := (kp5.trans kp6).trans kp7
          have hc7 := kp47 _ _ hcp hcg hc4
          have tx47 := kp47.tx hP4
          have hcT : c ≠ T := ne_of_none hc7 hT
          have hxl : xs.length < 16777215 := by
            have := hrep.len
            rw [List.length_map] at this
            omega
          have hcm : ch ∈ ns := by
            obtain ⟨j, _, hj, _⟩ := atI_get hch
            exact List.mem_of_getElem? hj
          have hc8 : upd H7 T (.tup [vS (cutL src (some r5) (some (r5 + 1 + r6))), vS [ch]]) c = some (.lst xs) := get_ne hcT hc7
          have hP8 : Pool p g (upd H7 T (.tup [vS (cutL src (some r5) (some (r5 + 1 + r6))), vS [ch]])) := hP7.new hT
          have kp8 : Kp p g H (upd H7 T (.tup [vS (cutL src (some r5) (some (r5 + 1 + r6))), vS [ch]])) := (kp4.trans kp47).trans (Kp.of_same (same_new hT))
          have tx8 : Tx H4 (upd H7 T (.tup [vS (cutL src (some r5) (some (r5 + 1 + r6))), vS [ch]])) := tx47.trans (Tx.new (Tx.refl _) hT)
          have hT8 : upd H7 T (.tup [vS (cutL src (some r5) (some (r5 + 1 + r6))), vS [ch]]) T = some (.tup [vS (cutL src (some r5) (some (r5 + 1 + r6))), vS [ch]]) := upd_same
          obtain ⟨a5, e5⟩ := Int.eq_ofNat_of_zero_le h50
          obtain ⟨a6, e6⟩ := Int.eq_ofNat_of_zero_le h60
          have hpc : (cutL src (some r5) (some (r5 + 1 + r6))).length = a6 + 1 := by
            rw [e5, e6]
            have e7 : (a5 : Int) + 1 + (a6 : Int) = ((a5 + 1 + a6 : Nat) : Int) := by omega
            rw [e7, cutL_nn _ (by omega) (by omega), List.length_take, List.length_drop]
            omega
          generalize cutL src (some r5) (some (r5 + 1 + r6)) = pc at hpc hc8 hP8 kp8 tx8 hT8 ⊢
          have hcT8 : c ≠ T := hcT
          generalize upd H7 T (.tup [vS pc, vS [ch]]) = H8 at hc8 hP8 kp8 tx8 hT8 ⊢
          walk_at "go"
          have hgood2 : GoodRow (rw' ++ [(pc, [ch])]) := by
            intro q hq
            rcases List.mem_append.mp hq with hq | hq
            · exact hgood q hq
            · rw [List.mem_singleton.mp hq]
              refine ⟨fun h => ?_, ch, rfl, hdot ch hcm⟩
              have := congrArg List.length h
              simp only [List.length_nil] at this
              omega
          have hpl2 : ∀ q ∈ rw' ++ [(pc, [ch])], q.1.length ≤ 40 := by
            intro q hq
            rcases List.mem_append.mp hq with hq | hq
            · exact hpl q hq
            · rw [List.mem_singleton.mp hq]
              show pc.length ≤ 40
              omega
          have hc9 : upd H8 c (.lst (xs ++ [.ref T])) c = some (.lst (xs ++ [.ref T])) := upd_same
          have hP9 : Pool p g (upd H8 c (.lst (xs ++ [.ref T]))) := hP8.lst hcp hcg
          have kp9 : Kp p g H (upd H8 c (.lst (xs ++ [.ref T]))) := fun b o k1 k2 e => get_ne (ne_of_none e hc) (kp8 b o k1 k2 e)
          have tx9 : Tx H8 (upd H8 c (.lst (xs ++ [.ref T]))) := Tx.lst (Tx.refl _) hc8
          have hrepT : Rep K (upd H8 c (.lst (xs ++ [.ref T]))) (pairD (pc, [ch])) (.ref T) := Rep.tup (SqT.of (get_ne hcT8.symm hT8)) (Reps.cons Rep.str (Reps.cons Rep.str Reps.nil))
          have hrep9 : Reps K (upd H8 c (.lst (xs ++ [.ref T]))) ((rw' ++ [(pc, [ch])]).map pairD) (xs ++ [.ref T]) := by
            rw [List.map_append]
            exact Reps.snoc (Reps.tx (tx8.trans tx9) _ _ hrep) hrepT
          generalize upd H8 c (.lst (xs ++ [.ref T])) = H9 at hc9 hP9 kp9 hrepT hrep9 ⊢
          refine ⟨p, g, _, rfl, hP9, by omega, by omega, fun Ha ra ha0 ha1 hPa kpa => ?_⟩
          have hca := kpa _ _ hcp hcg hc9
          have hrepa := Reps.tx (kpa.tx hP9) _ _ hrep9
          have hrepTa := Rep.tx (kpa.tx hP9) _ _ hrepT
          walk_at "go"
          have fin : ∃ rw xs v8' v9', [some (.ref p), some (vS l), some (vS ns), some (.bl wd), some (.ref c), some (.int L), some (vS src), some (.int m), some (.int (i : Nat)), some (.int r5)] = [some (.ref p), some (vS l), some (vS ns), some (.bl wd), some (.ref c), some (.int L), some (vS src), some (.int m), v8', v9'] ∧ rw.length ≤ 2 * (i + 1) ∧ GoodRow rw ∧ (∀ q ∈ rw, q.1.length ≤ 40) ∧ Ha c = some (.lst xs) ∧ Reps K Ha (rw.map pairD) xs ∧ Pool p g Ha ∧ Kp p g H Ha :=
            ⟨rw' ++ [(pc, [ch])], _, _, _, rfl, by rw [List.length_append, List.length_singleton]; omega, hgood2, hpl2, hca, hrepa, hPa, kp9.trans kpa⟩
          refine ite2 (fun e => ?_) (fun e => ?_)
          · walk_at "go"
            refine ite2 (fun e => ?_) (fun e => ?_)
            · walk_at "go"
              refine w_ixL (SqL.of hca) (atI_last _ _) ?_
              have hlt : (xs ++ [V.ref T]).length < 16777216 := by rw [List.length_append, List.length_singleton]; omega
              walk_at "go"
              have txb : Tx Ha (upd Ha c (.lst (xs ++ [.ref T] ++ [.ref T]))) := Tx.lst (Tx.refl _) hca
              refine ⟨rw' ++ [(pc, [ch])] ++ [(pc, [ch])], _, _, _, rfl, by rw [List.length_append, List.length_append, List.length_singleton]; omega, ?_, ?_, upd_same, ?_, hPa.lst hcp hcg, ?_⟩
              · intro q hq
                rcases List.mem_append.mp hq with hq | hq
                · exact hgood2 q hq
                · exact hgood2 q (List.mem_append_right _ hq)
              · intro q hq
                rcases List.mem_append.mp hq with hq | hq
                · exact hpl2 q hq
                · exact hpl2 q (List.mem_append_right _ hq)
              · rw [List.map_append]
                exact Reps.snoc (Reps.tx txb _ _ hrepa) (Rep.tx txb _ _ hrepTa)
              · exact fun b o k1 k2 e => get_ne (ne_of_none e hc) ((kp9.trans kpa) b o k1 k2 e)
            · walk_at "go"
              exact fin
          · walk_at "go"
            exact fin
        · rintro σ H4 ⟨rw', xs, v8, v9, rfl, hrl, hgood, hpl, hc4, hrep, hP4, kp4⟩
          walk_at "go"
          refine w_slL (SqL.of hc4) fun t ht => ?_
          walk_at "go"
          refine w_tupL (SqL.of upd_same) fun u hu => ?_
          rw [show (60 : Int) = ((60 : Nat) : Int) from rfl, cutL_to] at hu ⊢
          refine q _ (rw'.take 60) _ (fun x hx => hgood x (List.mem_of_mem_take hx)) (by rw [List.length_take]; omega) (fun x hx => hpl x (List.mem_of_mem_take hx)) ?_ ((hP4.new ht).new hu) (kp4.trans (Kp.of_same ((same_new ht).trans (same_new hu))))
          refine Rep.tup (SqT.of upd_same) ?_
          rw [List.map_take]
          exact Reps.take _ (Reps.tx (Tx.new (Tx.new (Tx.refl _) ht) hu) _ _ hrep)
abbrev s_law : Stmt := topS 17
theorem sc_law : FnScope ["script", "pool", "wide", "letters", "names", "asked", "text", "marks", "last", "some", "row"] ["script"] (defScope s_law) := ⟨rfl, rfl, rfl, by decide +kernel, rfl, by decide +kernel, by decide +kernel⟩
def cA : Nat → Int
  | 0 => 0 | 1 => 0 | 2 => 0 | 3 => 1 | 4 => 2 | 5 => 2 | _ => 2
def cB : Nat → Int
  | 0 => 0 | 1 => 0 | 2 => 1 | 3 => 1 | 4 => 1 | 5 => 1 | _ => 2
def cC : Nat → Int
  | 0 => 0 | 1 => 0 | 2 => 1 | 3 => 1 | 4 => 1 | 5 => 2 | _ => 3
/-- what one turn is to add -/
structure Inc (text e : List Nat) (a b c a' b' c' : Int) : Prop where
  len : e.length = text.length
  ha : a' ≤ a + b2 (decide (begAt e e.length < e.length))
  hb : b' ≤ b + b2 (!decide (begAt e e.length < e.length))
  hc : c' ≤ c + b2 (!(rowAt text e e.length).isEmpty)
theorem b2_nn (b : Bool) : 0 ≤ b2 b := by cases b <;> decide
theorem inc_any {text e : List Nat} {a b c : Int} (h : e.length = text.length) : Inc text e a b c a b c :=
  ⟨h, by have := b2_nn (decide (begAt e e.length < e.length)); omega, by have := b2_nn (!decide (begAt e e.length < e.length)); omega, by have := b2_nn (!(rowAt text e e.length).isEmpty); omega⟩
theorem inc_loose {text e : List Nat} {a b c : Int} {n : Nat} (h : e.length = text.length) (hn : e.length = n + 1) (hd : e[n]? = some 46) : Inc text e a b c (a + 1) b c := by
  have i := inc_any (a := a) (b := b) (c := c) h
  refine ⟨h, ?_, i.hb, i.hc⟩
  have := begAt_dot hd
  rw [hn, decide_eq_true (by omega)]
  exact Int.le_refl _
theorem inc_row {text e : List Nat} {a b c : Int} {j : Nat} (h : e.length = text.length) (hj : j < e.length) (hd : ¬ e[j]? = some 46) : Inc text e a b c a b (c + 1) := by
  have i := inc_any (a := a) (b := b) (c := c) h
  refine ⟨h, i.ha, i.hb, ?_⟩
  have := rowAt_grow text e hd _ hj
  have e2 : (rowAt text e e.length).isEmpty = false := by
    cases hr : rowAt text e e.length with
    | nil => exact absurd hr this
    | cons _ _ => rfl
  rw [e2]
  exact Int.le_refl _
theorem inc_full {text e : List Nat} {a b c : Int} {n k : Nat} (h : e.length = text.length) (hn : e.length = n + 1) (hd : e[n]? = some k) (hk : k ≠ 46) : Inc text e a b c a (b + 1) (c + 1) := by
  have i := inc_row (a := a) (b := b) (c := c) h (j := n) (by omega) (by rw [hd]; intro z; exact hk (Option.some.inj z))
  refine ⟨h, i.ha, ?_, i.hc⟩
  have := begAt_last hd hk
  rw [hn, decide_eq_false (by omega)]
  exact Int.le_refl _
theorem ok_law {f : Addr} {fd : FuncData} (c__law_pool : Cal P w K mg base 1 "_law_pool" (spPool K)) (c__law_draw : Cal P w K mg base 1 "_law_draw" spDraw) (c__law_letters : Cal P w K mg base 2 "_law_letters" spLetters) (c__law_names : Cal P w K mg base 2 "_law_names" spNames)
    (c__law_text : Cal P w K mg base 2 "_law_text" spText) (c__law_marks : Cal P w K mg base 2 "_law_marks" spMarks) (c__law_cut_right : Cal P w K mg base 2 "_law_cut_right" (spRight K)) (c__law_row : Cal P w K mg base 3 "_law_row" (spRow K))
    (c__law_of_row : Cal P w K mg base 1 "_law_of_row" (spOfRow K)) (c__law_same : Cal P w K mg base 1 "_law_same" (spSame K)) (c_row_of : Cal P w K mg base 1 "row_of" (spRowOf K)) (c_loose_of : Cal P w K mg base 1 "loose_of" spLooseOf)
    (c_row_text : Cal P w K mg base 1 "row_text" (spRowText K)) (c_row_marks : Cal P w K mg base 1 "row_marks" (spRowMarks K)) (F : Fun K "law" "law" s_law f fd) (b_len : mg "len" = none) : FnOk P w K mg base CX0 4 f fd ["script"] (spLaw K) := by
  refine F.ok sc_law (fun vs H Q E h => ?_) (fun cdv A outer s H vs Q E hr h => ?_)
  · obtain ⟨a, ns, rfl, _⟩ := h
    rfl
  · obtain ⟨a, ns, rfl, hS, hz, q⟩ := h
    refine ⟨_, (pss_cons (ps_set (i := 1) sc_law.nd rfl (.inl rfl) (pe_c c__law_pool hr (by decide) (by rfl) (pa_cons (pv 0) pa_nil)))
      (pss_cons (ps_set (i := 2) sc_law.nd rfl (.inl rfl) (pe_cmpR op_eqI (pe_c c__law_draw hr (by decide) (by rfl) (pa_cons (pv 1) (pa_cons pe_int pa_nil))) pe_int (nomark _)))
      (pss_cons (ps_set (i := 3) sc_law.nd rfl (.inl rfl) (pe_c c__law_letters hr (by decide) (by rfl) (pa_cons (pv 1) (pa_cons pe_int pa_nil))))
      (pss_cons (ps_set (i := 4) sc_law.nd rfl (.inl rfl) (pe_c c__law_names hr (by decide) (by rfl) (pa_cons (pv 1) pa_nil)))
      (pss_cons (ps_set (i := 5) sc_law.nd rfl (.inl rfl) (pe_lst (pa_cons pe_int (pa_cons pe_int (pa_cons pe_int pa_nil)))))
      (pss_cut (ps_set (i := 6) sc_law.nd rfl (.inl rfl) (pe_c c__law_text hr (by decide) (by rfl) (pa_cons (pv 1) (pa_cons (pv 3) (pa_cons (pe_ifExp (pt_val (pv 2)) (pe_op op_sub pe_int (pe_op op_mul (pe_c c__law_draw hr (by decide) (by rfl) (pa_cons (pv 1) (pa_cons pe_int pa_nil))) pe_int)) (pe_un un_neg pe_int)) pa_nil)))))
      (pss_cons (ps_set (i := 7) sc_law.nd rfl (.inl rfl) (pe_c c__law_marks hr (by decide) (by rfl) (pa_cons (pv 1) (pa_cons (pv 4) (pa_cons (pe_callB call_lenS (by rfl) b_len PySem.boot_len (pa_cons (pv 6) pa_nil)) pa_nil)))))
      (pss_cut (ps_set (i := 8) sc_law.nd rfl (.inl rfl) (pe_ix ix_S (pv 4) (pe_c c__law_draw hr (by decide) (by rfl) (pa_cons (pv 1) (pa_cons (pe_callB call_lenS (by rfl) b_len PySem.boot_len (pa_cons (pv 4) pa_nil)) pa_nil))) (fun _ _ => rfl)))
      (pss_cut (ps_for PassesOwn.never rfl (pi_list (pe_lst (pa_cons (pv 7) (pa_cons (pe_op op_addS (pe_slice sl_S (pv 7) po_none (po_some (pe_un un_neg pe_int))) (pv 8)) (pa_cons (pe_op op_addS (pe_slice sl_S (pv 7) po_none (po_some (pe_un un_neg pe_int))) (pe_strL [46] (by decide +kernel))) (pa_cons (pe_op op_mulS (pe_strL [46] (by decide +kernel)) (pe_callB call_lenS (by rfl) b_len PySem.boot_len (pa_cons (pv 6) pa_nil))) (pa_cons (pe_op op_addS (pv 8) (pe_op op_mulS (pe_strL [46] (by decide +kernel)) (pe_op op_sub (pe_callB call_lenS (by rfl) b_len PySem.boot_len (pa_cons (pv 6) pa_nil)) pe_int))) (pa_cons (pe_op op_mulS (pv 8) (pe_callB call_lenS (by rfl) b_len PySem.boot_len (pa_cons (pv 6) pa_nil))) pa_nil)))))))) (pg_name (i := 9) sc_law.nd rfl (.inl rfl))
      (pss_one (ps_if (pt_not (pt_val (pe_c c__law_cut_right hr (by decide) (by rfl) (pa_cons (pv 6) (pa_cons (pv 9) (pa_cons (pv 5) pa_nil)))))) (pss_one (ps_ret pe_bl)) pss_nil)))
      (pss_cons (ps_if (PW.pt (pw_or (pt_not (pt_val (pe_c c__law_cut_right hr (by decide) (by rfl) (pa_cons (pe_slice sl_S (pv 6) po_none (po_some pe_int)) (pa_cons (pe_strL [46] (by decide +kernel)) (pa_cons (pv 5) pa_nil)))))) (pw_or1 (pt_not (pt_val (pe_c c__law_cut_right hr (by decide) (by rfl) (pa_cons (pe_strL [] (by decide +kernel)) (pa_cons (pe_strL [] (by decide +kernel)) (pa_cons (pv 5) pa_nil))))))))) (pss_one (ps_ret pe_bl)) pss_nil)
      (pss_cut (ps_set (i := 10) sc_law.nd rfl (.inl rfl) (pe_c c__law_row hr (by decide) (by rfl) (pa_cons (pv 1) (pa_cons (pv 3) (pa_cons (pv 4) (pa_cons (pv 2) pa_nil))))))
      (pss_cons (ps_for PassesOwn.never rfl (pi_list (pe_lst (pa_cons (pv 10) (pa_cons (pe_slice sl_tupA (pv 10) (po_some pe_int) po_none) (pa_cons (pe_slice sl_tupA (pv 10) po_none (po_some pe_int)) (pa_cons (pe_tup pa_nil) pa_nil)))))) (pg_name (i := 9) sc_law.nd rfl (.inl rfl))
      (pss_cons (ps_asg (pe_c c__law_of_row hr (by decide) (by rfl) (pa_cons (pv 9) pa_nil)) (pg_tup rfl (pgs_cons (pg_name (i := 7) sc_law.nd rfl (.inl rfl)) (pgs_cons (pg_name (i := 6) sc_law.nd rfl (.inl rfl)) pgs_nil))))
      (pss_cons (ps_if (PW.pt (pw_or (pt_not (pt_val (pe_c c__law_same hr (by decide) (by rfl) (pa_cons (pe_c c_row_marks hr (by decide) (by rfl) (pa_cons (pv 9) pa_nil)) (pa_cons (pv 7) pa_nil))))) (pw_or1 (pt_not (pt_val (pe_c c__law_same hr (by decide) (by rfl) (pa_cons (pe_c c_row_text hr (by decide) (by rfl) (pa_cons (pv 9) pa_nil)) (pa_cons (pv 6) pa_nil)))))))) (pss_one (ps_ret pe_bl)) pss_nil)
      (pss_cons (ps_if (PW.pt (pw_or (pt_not (pt_val (pe_c c__law_same hr (by decide) (by rfl) (pa_cons (pe_c c_row_of hr (by decide) (by rfl) (pa_cons (pv 6) (pa_cons (pv 7) pa_nil))) (pa_cons (pv 9) pa_nil))))) (pw_or1 (pt_not (pt_val (pe_c c__law_same hr (by decide) (by rfl) (pa_cons (pe_c c_loose_of hr (by decide) (by rfl) (pa_cons (pv 6) (pa_cons (pv 7) pa_nil))) (pa_cons (pe_strL [] (by decide +kernel)) pa_nil)))))))) (pss_one (ps_ret pe_bl)) pss_nil)
      (pss_one (ps_if (pt_not (pt_val (pe_c c__law_cut_right hr (by decide) (by rfl) (pa_cons (pe_op op_addS (pv 6) (pe_op op_mulS (pe_ix ix_S (pv 3) pe_int (fun _ _ => rfl)) pe_int)) (pa_cons (pe_op op_addS (pv 7) (pe_strL [46, 46] (by decide +kernel))) (pa_cons (pv 5) pa_nil)))))) (pss_one (ps_ret pe_bl)) pss_nil))))))
      (pss_one (ps_ret (pe_and (pe_cmpR op_ge (pe_ix ix_list (pv 5) pe_int (fun _ _ => rfl)) pe_int (nomark _)) (pe_and (pe_cmpR op_ge (pe_ix ix_list (pv 5) pe_int (fun _ _ => rfl)) pe_int (nomark _)) (pe_one (pe_cmpR op_ge (pe_ix ix_list (pv 5) pe_int (fun _ _ => rfl)) pe_int (nomark _))))))))))))))))))), ?_⟩
    refine st_is (σ' := start _ _) (σ := [some (.ref a), none, none, none, none, none, none, none, none, none, none]) rfl ?_
    try dsimp only [cxOf, Cx.nox, Cx.wish]
    walk_at "go"
    refine ⟨a, ns, rfl, hS, hz, fun H1 p g hp hg hP1 sm1 => ?_⟩
    walk_at "go"
    refine ⟨p, g, _, rfl, hP1, by omega, by omega, fun H2 r2 h20 h21 hP2 kp2 => ?_⟩
    walk_at "go"
    refine ⟨p, g, _, rfl, hP2, by omega, by omega, fun H3 ls hl0 hl6 hP3 kp3 => ?_⟩
    walk_at "go"
    refine ⟨p, g, rfl, hP3, fun H4 ns' hn0 hn52 hdot hP4 kp4 => ?_⟩
    walk_at "go"
    refine w_new (by simp) fun qa hqa => ?_
    walk_at "go"
    have hqp := hP4.ne1 hqa
    have hqg := hP4.ne2 hqa
    have hP5 : Pool p g (upd H4 qa (.lst [.int 0, .int 0, .int 0])) := hP4.new hqa
    have hq5 : upd H4 qa (.lst [.int 0, .int 0, .int 0]) qa = some (.lst [.int 0, .int 0, .int 0]) := upd_same
    generalize upd H4 qa (.lst [.int 0, .int 0, .int 0]) = H5 at hP5 hq5 ⊢
    refine w_cut (fun σ H' => ∃ t : List Nat, σ = [some (.ref a), some (.ref p), some (.bl (decide (r2 = 4))), some (vS ls), some (vS ns'), some (.ref qa), some (vS t), none, none, none, none] ∧ 1 ≤ t.length ∧ t.length ≤ 2000 ∧ Pool p g H' ∧ H' qa = some (.lst [.int 0, .int 0, .int 0])) ?_ ?_
    · walk_at "go"
      refine ite2 (fun e => ?_) (fun e => ?_)
      · walk_at "go"
        refine ⟨p, g, _, rfl, hP5, by omega, by omega, fun H6 r6 h60 h61 hP6 kp6 => ?_⟩
        walk_at "go"
        refine ⟨p, g, ls, _, rfl, hP6, hl0, hl6, by omega, by omega, fun H7 t _ ht hP7 kp7 => ?_⟩
        walk_at "go"
        have := ht (by omega)
        exact ⟨t, rfl, by omega, by omega, hP7, kp7 _ _ hqp hqg (kp6 _ _ hqp hqg hq5)⟩
      · walk_at "go"
        refine ⟨p, g, ls, _, rfl, hP5, hl0, hl6, by omega, by omega, fun H7 t ht _ hP7 kp7 => ?_⟩
        walk_at "go"
        have := ht (by omega)
        exact ⟨t, rfl, by omega, by omega, hP7, kp7 _ _ hqp hqg hq5⟩
    rintro σ H6 ⟨t, rfl, ht1, ht2, hP6, hq6⟩
    walk_at "go"
    refine ⟨p, g, ns', _, rfl, hP6, hn0, hn52, by omega, by omega, fun H7 m hm hP7 kp7 => ?_⟩
    have hml : m.length = t.length := by omega
    have hq7 := kp7 _ _ hqp hqg hq6
    have hnl : 0 < ns'.length := List.length_pos_iff.mpr hn0
    walk_at "go"
    refine w_cut (fun σ H' => ∃ k : Nat, k ≠ 46 ∧ σ = [some (.ref a), some (.ref p), some (.bl (decide (r2 = 4))), some (vS ls), some (vS ns'), some (.ref qa), some (vS t), some (vS m), some (vS [k]), none, none] ∧ Pool p g H' ∧ H' qa = some (.lst [.int 0, .int 0, .int 0])) ?_ ?_
    · walk_at "go"
      refine ⟨p, g, _, rfl, hP7, by omega, by omega, fun H8 r8 h80 h81 hP8 kp8 => ?_⟩
      obtain ⟨k, hk⟩ := atI_in h80 h81
      refine w_ixS (by omega) hk ?_
      walk_at "go"
      have hkm : k ∈ ns' := by
        obtain ⟨j, _, hj, _⟩ := atI_get hk
        exact List.mem_of_getElem? hj
      exact ⟨k, hdot k hkm, rfl, hP8, kp8 _ _ hqp hqg hq7⟩
    rintro σ H8 ⟨k, hk46, rfl, hP8, hq8⟩
    walk_at "go"
    refine w_cut (fun σ H' => ∃ (x y z : Int) (v9 : Option V), σ = [some (.ref a), some (.ref p), some (.bl (decide (r2 = 4))), some (vS ls), some (vS ns'), some (.ref qa), some (vS t), some (vS m), some (vS [k]), v9, none] ∧ 2 ≤ x ∧ 2 ≤ y ∧ 3 ≤ z ∧ Pool p g H' ∧ H' qa = some (.lst [.int x, .int y, .int z])) ?_ ?_
    · have hcm : cutL m none (some (-1)) = m.dropLast := by
        unfold cutL
        have e1 : HT.sIx m.length m.length (some (-1)) = m.length - 1 := by
          show (if (-1 : Int) < 0 then ((-1 : Int) + (m.length : Int)).toNat else min (-1 : Int).toNat m.length) = _
          rw [if_pos (by omega)]
          omega
        rw [e1, HT.sIx_none, List.drop_zero, Nat.sub_zero, List.dropLast_eq_take]
      have hdl : m.dropLast.length = t.length - 1 := by rw [List.length_dropLast, hml]
      have hcl : (cutL m none (some (-1))).length = t.length - 1 := by rw [hcm, hdl]
      have hr1 : ∀ c : Nat, (rep (t.length : Int) [c]) = List.replicate t.length c := fun c => by rw [rep_one, Int.toNat_natCast]
      have hr2 : ∀ c : Nat, (rep ((t.length : Int) - 1) [c]) = List.replicate (t.length - 1) c := fun c => by
        rw [rep_one]
        congr 1
        omega
      have hl1 : (rep ((t.length : Int) - 1) [46]).length = t.length - 1 := by rw [hr2, List.length_replicate]
      walk_at "go"
      rw [hcm, hr1, hr1, hr2]
      refine w_new (by simp) fun L hL => ?_
      have hLq : L ≠ qa := (ne_of_none hq8 hL).symm
      have hP9 := hP8.new (o := .lst [vS m, vS (m.dropLast ++ [k]), vS (m.dropLast ++ [46]), vS (List.replicate t.length 46), vS ([k] ++ List.replicate (t.length - 1) 46), vS (List.replicate t.length k)]) hL
      have hLp := hP8.ne1 hL
      have hLg := hP8.ne2 hL
      have hq9 : upd H8 L (.lst [vS m, vS (m.dropLast ++ [k]), vS (m.dropLast ++ [46]), vS (List.replicate t.length 46), vS ([k] ++ List.replicate (t.length - 1) 46), vS (List.replicate t.length k)]) qa = some (.lst [.int 0, .int 0, .int 0]) := get_ne hLq.symm hq8
      obtain ⟨n, hn⟩ : ∃ n, t.length = n + 1 := ⟨t.length - 1, by omega⟩
      have key : ∀ (i : Nat) (x : V), [vS m, vS (m.dropLast ++ [k]), vS (m.dropLast ++ [46]), vS (List.replicate t.length 46), vS ([k] ++ List.replicate (t.length - 1) 46), vS (List.replicate t.length k)][i]? = some x →
          ∃ e, x = vS e ∧ Inc t e (cA i) (cB i) (cC i) (cA (i + 1)) (cB (i + 1)) (cC (i + 1)) := by
        intro i x hi
        have hd1 : (m.dropLast ++ [k]).length = t.length := by rw [List.length_append, hdl]; simp; omega
        have hd2 : (m.dropLast ++ [46]).length = t.length := by rw [List.length_append, hdl]; simp; omega
        have hg1 : ∀ c : Nat, (m.dropLast ++ [c])[n]? = some c := fun c => by
          rw [List.getElem?_append_right (by omega), hdl]
          have e : n - (t.length - 1) = 0 := by omega
          rw [e]
          rfl
        match i, hi with
        | 0, hi => exact ⟨m, (Option.some.inj hi).symm, inc_any hml⟩
        | 1, hi => exact ⟨_, (Option.some.inj hi).symm, inc_full hd1 (by omega) (hg1 k) hk46⟩
        | 2, hi => exact ⟨_, (Option.some.inj hi).symm, inc_loose hd2 (by omega) (hg1 46)⟩
        | 3, hi => exact ⟨_, (Option.some.inj hi).symm, inc_loose (n := n) (by rw [List.length_replicate]) (by rw [List.length_replicate, hn]) (by rw [List.getElem?_replicate, if_pos (by omega)])⟩
        | 4, hi => exact ⟨_, (Option.some.inj hi).symm, inc_row (j := 0) (by rw [List.length_append, List.length_replicate]; simp; omega) (by simp) (by
            intro z
            have z2 : some k = some 46 := z
            exact hk46 (Option.some.inj z2))⟩
        | 5, hi => exact ⟨_, (Option.some.inj hi).symm, inc_full (n := n) (k := k) (by rw [List.length_replicate]) (by rw [List.length_replicate, hn]) (by rw [List.getElem?_replicate, if_pos (by omega)]) hk46⟩
        | i + 6, hi => simp at hi
      have h6 : [vS m, vS (m.dropLast ++ [k]), vS (m.dropLast ++ [46]), vS (List.replicate t.length 46), vS ([k] ++ List.replicate (t.length - 1) 46), vS (List.replicate t.length k)].length = 6 := rfl
      have hLL : upd H8 L (.lst [vS m, vS (m.dropLast ++ [k]), vS (m.dropLast ++ [46]), vS (List.replicate t.length 46), vS ([k] ++ List.replicate (t.length - 1) 46), vS (List.replicate t.length k)]) L = some (.lst [vS m, vS (m.dropLast ++ [k]), vS (m.dropLast ++ [46]), vS (List.replicate t.length 46), vS ([k] ++ List.replicate (t.length - 1) 46), vS (List.replicate t.length k)]) := upd_same
      generalize hxs : [vS m, vS (m.dropLast ++ [k]), vS (m.dropLast ++ [46]), vS (List.replicate t.length 46), vS ([k] ++ List.replicate (t.length - 1) 46), vS (List.replicate t.length k)] = xs at key hP9 hq9 hLL h6 ⊢
      generalize upd H8 L (.lst xs) = H9 at hP9 hq9 hLL ⊢
      refine w_lstQ (SqL.of hLL) (fun i σ H' => ∃ (x y z : Int) (v9 : Option V), σ = [some (.ref a), some (.ref p), some (.bl (decide (r2 = 4))), some (vS ls), some (vS ns'), some (.ref qa), some (vS t), some (vS m), some (vS [k]), v9, none] ∧ cA i ≤ x ∧ cB i ≤ y ∧ cC i ≤ z ∧ Pool p g H' ∧ H' qa = some (.lst [.int x, .int y, .int z]) ∧ H' L = some (.lst xs))
        ⟨0, 0, 0, _, rfl, by decide, by decide, by decide, hP9, hq9, hLL⟩ (fun i σ H' _ ⟨_, _, _, _, _, _, _, _, _, _, h⟩ => SqL.of h) ?_ ?_
      · rintro i v σ Ha hi ⟨x, y, z, v9, rfl, hx, hy, hz', hPa, hqa', hLa⟩
        obtain ⟨e, rfl, inc⟩ := key i v hi
        walk_at "go"
        refine ⟨t, e, qa, x, y, z, rfl, inc.len.symm, by have := inc.len; omega, hqa', fun Hb hkeep hqb => ?_⟩
        walk_at "go"
        have i1 := inc.ha
        have i2 := inc.hb
        have i3 := inc.hc
        refine ⟨_, _, _, _, rfl, by omega, by omega, by omega, ?_, hqb, hkeep _ _ hLq hLa⟩
        obtain ⟨ne, u1, u2, e1, e2, e3⟩ := hPa
        exact ⟨ne, u1, u2, hkeep _ _ hqp.symm e1, hkeep _ _ hqg.symm e2, e3⟩
      · rintro σ Ha ⟨x, y, z, v9, rfl, hx, hy, hz', hPa, hqa', hLa⟩
        rw [h6] at hx hy hz'
        exact ⟨x, y, z, v9, rfl, hx, hy, hz', hPa, hqa'⟩
    rintro σ H9 ⟨x, y, z, v9, rfl, hx, hy, hz', hP9, hq9⟩
    walk_at "go"
    have ht1' : cutL t none (some 1) = t.take 1 := by
      rw [show (1 : Int) = ((1 : Nat) : Int) from rfl, cutL_to]
    rw [ht1']
    have hl1 : (t.take 1).length = 1 := by rw [List.length_take]; omega
    refine ⟨t.take 1, [46], qa, x, y, z, rfl, by rw [hl1]; rfl, by simp, hq9, fun Ha hka hqa' => ?_⟩
    have inc1 := inc_loose (text := t.take 1) (e := [46]) (n := 0) (a := x) (b := y) (c := z) (by rw [hl1]; rfl) rfl rfl
    obtain ⟨x1, y1, z1, hx1, hy1, hz1, hq10⟩ : ∃ x1 y1 z1 : Int, x + 1 ≤ x1 ∧ y ≤ y1 ∧ z ≤ z1 ∧ Ha qa = some (.lst [.int x1, .int y1, .int z1]) := ⟨_, _, _, inc1.ha, inc1.hb, inc1.hc, hqa'⟩
    walk_at "go"
    refine ⟨[], [], qa, _, _, _, rfl, rfl, by simp, hq10, fun Hb hkb hqb => ?_⟩
    have inc2 : b2 (!decide (begAt ([] : List Nat) ([] : List Nat).length < ([] : List Nat).length)) = 1 := by decide
    have inc3 := b2_nn (decide (begAt ([] : List Nat) ([] : List Nat).length < ([] : List Nat).length))
    have inc4 := b2_nn (!(rowAt ([] : List Nat) ([] : List Nat) ([] : List Nat).length).isEmpty)
    obtain ⟨x2, y2, z2, hx2, hy2, hz2, hq11⟩ : ∃ x2 y2 z2 : Int, 3 ≤ x2 ∧ 3 ≤ y2 ∧ 3 ≤ z2 ∧ Hb qa = some (.lst [.int x2, .int y2, .int z2]) := ⟨_, _, _, by omega, by omega, by omega, hqb⟩
    have hPb : Pool p g Hb := by
      obtain ⟨ne, u1, u2, e1, e2, e3⟩ := hP9
      exact ⟨ne, u1, u2, hkb _ _ hqp.symm (hka _ _ hqp.symm e1), hkb _ _ hqg.symm (hka _ _ hqg.symm e2), e3⟩
    clear inc2 inc3 inc4 inc1
    walk_at "go"
    refine w_cut (fun σ H' => ∃ (v9 : Option V) (t' : Addr) (xs : List V) (r : Row), σ = [some (.ref a), some (.ref p), some (.bl (decide (r2 = 4))), some (vS ls), some (vS ns'), some (.ref qa), some (vS t), some (vS m), some (vS [k]), v9, some (.ref t')] ∧ SqT K H' t' xs ∧ Reps K H' (r.map pairD) xs ∧ GoodRow r ∧ r.length ≤ 60 ∧ (∀ p ∈ r, p.1.length ≤ 40) ∧ H' qa = some (.lst [.int x2, .int y2, .int z2])) ?_ ?_
    · walk_at "go"
      refine ⟨p, g, ls, ns', _, rfl, hPb, hl0, hl6, hn0, hn52, hdot, fun Hc r v hgood hrl hpl hrep hPc kpc => ?_⟩
      obtain ⟨t', xs, rfl, ht', hxs⟩ := rep_tup hrep
      walk_at "go"
      exact ⟨_, t', xs, r, rfl, ht', hxs, hgood, hrl, hpl, kpc _ _ hqp hqg hq11⟩
    rintro σ Hc ⟨v9, t', xs, r, rfl, ht', hxs, hgood, hrl, hpl, hqc⟩
    walk_at "go"
    refine w_slA ht' fun p1 Hd smd hp1 => ?_
    have ht2 := (Tx.of_same smd).sqT ht'
    walk_at "go"
    refine w_slA ht2 fun p2 He sme hp2 => ?_
    walk_at "go"
    refine w_new (by simp) fun p3 hp3 => ?_
    walk_at "go"
    refine w_new (by simp) fun L hL => ?_
    rw [show (1 : Int) = ((1 : Nat) : Int) from rfl, cutL_from2] at hp1
    rw [show (1 : Int) = ((1 : Nat) : Int) from rfl, cutL_to] at hp2
    have txd := Tx.of_same smd
    have txe := Tx.of_same sme
    have txf : Tx He (upd (upd He p3 (.tup [])) L (.lst [.ref t', .ref p1, .ref p2, .ref p3])) := Tx.new (Tx.new (Tx.refl _) hp3) hL
    have hqe := sme _ _ (smd _ _ hqc)
    have hq3 : upd He p3 (.tup []) qa = some (.lst [.int x2, .int y2, .int z2]) := get_ne (ne_of_none hqe hp3) hqe
    have hLq : L ≠ qa := (ne_of_none hq3 hL).symm
    have hqL : upd (upd He p3 (.tup [])) L (.lst [.ref t', .ref p1, .ref p2, .ref p3]) qa = some (.lst [.int x2, .int y2, .int z2]) := get_ne hLq.symm hq3
    have hp3L : p3 ≠ L := ne_of_none upd_same hL
    have hp30 : SqT K (upd (upd He p3 (.tup [])) L (.lst [.ref t', .ref p1, .ref p2, .ref p3])) p3 [] := SqT.of (get_ne hp3L upd_same)
    have hLL : upd (upd He p3 (.tup [])) L (.lst [.ref t', .ref p1, .ref p2, .ref p3]) L = some (.lst [.ref t', .ref p1, .ref p2, .ref p3]) := upd_same
    generalize upd (upd He p3 (.tup [])) L (.lst [.ref t', .ref p1, .ref p2, .ref p3]) = Hf at txf hqL hp30 hLL ⊢
    have txcf := (txd.trans txe).trans txf
    have key : ∀ (i : Nat) (x : V), [V.ref t', V.ref p1, V.ref p2, V.ref p3][i]? = some x → ∃ r' : Row, Rep K Hf (rowD r') x ∧ GoodRow r' ∧ r'.length ≤ 60 ∧ (∀ p ∈ r', p.1.length ≤ 40) := by
      intro i x hi
      match i, hi with
      | 0, hi => exact ⟨r, (Option.some.inj hi) ▸ Rep.tup (txcf.sqT ht') (Reps.tx txcf _ _ hxs), hgood, hrl, hpl⟩
      | 1, hi =>
        refine ⟨r.drop 1, (Option.some.inj hi) ▸ Rep.tup ((txe.trans txf).sqT hp1) ?_, fun p hp => hgood p (List.mem_of_mem_drop hp), by rw [List.length_drop]; omega, fun p hp => hpl p (List.mem_of_mem_drop hp)⟩
        rw [List.map_drop]
        exact Reps.drop 1 (Reps.tx txcf _ _ hxs)
      | 2, hi =>
        refine ⟨r.take 1, (Option.some.inj hi) ▸ Rep.tup (txf.sqT hp2) ?_, fun p hp => hgood p (List.mem_of_mem_take hp), by rw [List.length_take]; omega, fun p hp => hpl p (List.mem_of_mem_take hp)⟩
        rw [List.map_take]
        exact Reps.take 1 (Reps.tx txcf _ _ hxs)
      | 3, hi => exact ⟨[], (Option.some.inj hi) ▸ Rep.tup hp30 Reps.nil, (fun _ h => nomatch h), by simp, (fun _ h => nomatch h)⟩
      | i + 4, hi => simp at hi
    have hls : 0 < ls.length := List.length_pos_iff.mpr hl0
    obtain ⟨c0, hc0⟩ := atI_in (l := ls) (r := 0) (by omega) (by omega)
    refine w_lstQ (SqL.of hLL) (fun i σ H' => ∃ (x y z : Int) (v6 v7 v9 : Option V), σ = [some (.ref a), some (.ref p), some (.bl (decide (r2 = 4))), some (vS ls), some (vS ns'), some (.ref qa), v6, v7, some (vS [k]), v9, some (.ref t')] ∧ 3 + (i : Int) ≤ x ∧ 3 ≤ y ∧ 3 ≤ z ∧ Tx Hf H' ∧ H' qa = some (.lst [.int x, .int y, .int z]) ∧ H' L = some (.lst [.ref t', .ref p1, .ref p2, .ref p3]))
      ⟨x2, y2, z2, _, _, _, rfl, by omega, hy2, hz2, Tx.refl _, hqL, hLL⟩ (fun i σ H' _ ⟨_, _, _, _, _, _, _, _, _, _, _, _, h⟩ => SqL.of h) ?_ ?_
    · rintro i v σ H7' hi ⟨x, y, z, v6, v7, v9, rfl, hx, hy, hz'', tx, hq7', hL7⟩
      obtain ⟨r', hR, hg', hl', hpl'⟩ := key i v hi
      have hR7 := Rep.tx tx _ _ hR
      have hml' := rowMarks_len hg'
      have htl' := rowText_len r' hpl'
      obtain ⟨hbeg, hrow⟩ := rowAt_row r' hg'
      have hpc : ∀ p ∈ r', 1 ≤ p.1.length ∧ p.1.length ≤ 100 ∧ p.2.length = 1 := fun p hp => by
        obtain ⟨h1, c, h2, _⟩ := hg' p hp
        have h3 := hpl' p hp
        have h4 : 0 < p.1.length := List.length_pos_iff.mpr h1
        rw [h2]
        exact ⟨h4, by omega, rfl⟩
      have hpc2 : ∀ p ∈ r', p.1.length ≤ 100000 ∧ p.2.length ≤ 100000 := fun p hp => by
        have := hpc p hp
        omega
      have hsz := rowD_size r'
      walk_at "go"
      refine ⟨v, r', rfl, hR7, by omega, hpc, fun Ha va sma hva => ?_⟩
      obtain ⟨ta, xa, rfl, hta, hxa⟩ := rep_tup hva
      obtain ⟨u1, xa1, rfl, hu1, hxa1⟩ := reps_cons hxa
      obtain ⟨u2, xa2, rfl, hu2, hxa2⟩ := reps_cons hxa1
      have e1 := rep_str hu1
      have e2 := rep_str hu2
      have e3 := reps_nil hxa2
      subst e1 e2 e3
      walk_at "go"
      have hRa := Rep.tx (Tx.of_same sma) _ _ hR7
      refine ⟨v, r', rfl, hRa, by omega, by omega, hpc2, fun Hb' smb => ?_⟩
      walk_at "go"
      refine ⟨_, _, .str (rowMarks r'), rfl, Rep.str, Rep.str, by simp [D.size], fun Hc' smc => ?_⟩
      walk_at "go"
      have hRc := Rep.tx (Tx.of_same (smb.trans smc)) _ _ hRa
      refine ⟨v, r', rfl, hRc, by omega, by omega, fun Hd' smd' => ?_⟩
      walk_at "go"
      refine ⟨_, _, .str (rowText r'), rfl, Rep.str, Rep.str, by simp [D.size], fun He' sme' => ?_⟩
      walk_at "go"
      refine ⟨rowText r', rowMarks r', rfl, by omega, by omega, fun Hf' vf smf hvf => ?_⟩
      rw [hrow] at hvf
      walk_at "go"
      have hRf := Rep.tx (Tx.of_same ((smd'.trans sme').trans smf)) _ _ hRc
      refine ⟨vf, v, rowD r', rfl, hvf, hRf, by omega, fun Hg smg => ?_⟩
      walk_at "go"
      refine ⟨rowText r', rowMarks r', rfl, hml'.symm, by omega, fun Hh smh => ?_⟩
      rw [hbeg, hml', List.drop_length]
      walk_at "go"
      refine ⟨_, _, .str [], rfl, Rep.str, Rep.str, by simp [D.size], fun Hi smi => ?_⟩
      walk_at "go"
      have small := (((((((sma.trans smb).trans smc).trans smd').trans sme').trans smf).trans smg).trans smh).trans smi
      have hq8' := small _ _ hq7'
      have hL8 := small _ _ hL7
      refine w_ixS (by omega) hc0 ?_
      have hr2 : rep 2 [c0] = [c0, c0] := rfl
      walk_at "go"
      rw [hr2]
      refine w_addS (by simp; omega) ?_
      walk_at "go"
      have hlen2 : (rowMarks r' ++ [46, 46]).length = (rowText r' ++ [c0, c0]).length := by
        rw [List.length_append, List.length_append, hml']
        rfl
      refine ⟨rowText r' ++ [c0, c0], rowMarks r' ++ [46, 46], qa, x, y, z, rfl, hlen2.symm, by rw [List.length_append, hml']; simp; omega, hq8', fun Hj hkeep hqj => ?_⟩
      have inc := inc_loose (text := rowText r' ++ [c0, c0]) (e := rowMarks r' ++ [46, 46]) (n := (rowMarks r').length + 1) (a := x) (b := y) (c := z) hlen2 (by rw [List.length_append]; rfl) (by
        rw [List.getElem?_append_right (by omega), Nat.add_sub_cancel_left]
        rfl)
      have i1 := inc.ha
      have i2 := inc.hb
      have i3 := inc.hc
      walk_at "go"
      refine ⟨_, _, _, _, _, _, rfl, by omega, by omega, by omega, ?_, hqj, hkeep _ _ hLq hL8⟩
      refine (tx.trans (Tx.of_same small)).trans fun b o tt e => hkeep b o ?_ e
      refine ne_of e hq8' ?_
      rcases tt with ⟨_, rfl⟩ | ⟨_, _, rfl⟩ <;> intro z <;> cases z
    · rintro σ H7' ⟨x, y, z, v6, v7, v9, rfl, hx, hy, hz'', tx, hq7', hL7⟩
      have hx7 : 7 ≤ x := hx
      walk_at "go"
      rw [decide_eq_true (by omega)]
      walk_at "go"
      rw [decide_eq_true (by omega)]
      walk_at "go"
      rw [decide_eq_true (by omega)]
      exact q _
end
end My
open PySem PySem.W PyProof.Rows
set_option maxHeartbeats 0 in
theorem PySem.Challenge.cw_seamsight_k02_rows_and_marks_holds : PySem.Challenge.rw_seamsight_k02_rows_and_marks.Holds := by
  w_on; o_law; k_head; (case hw => w_witness2)
  k_fill
  refine L2.walk_of (l := PySem.Challenge.rw_seamsight_k02_rows_and_marks) (n := 63) (k := 4) (x := "script") (CX := fun _ => L2.CX0) (sp := fun w => My.spLaw _) rfl (by decide) rfl ⟨rfl, by decide, by decide⟩ (fun w h Y => PySem.W.kIn_of Y) ?F (fun _ _ a ns hl _ hS => ⟨a, ns, rfl, hS, hl, fun _ => rfl⟩) (fun _ _ _ _ _ h => h)
  case F =>
    intro w mg fa h KX G hmg
    change mg "law" = some (.ref fa) at hmg
    have b_abs : mg "abs" = none := by
      refine PySem.W.mg_none_of KX G ?_
      k_is
    have b_bool : mg "bool" = none := by
      refine PySem.W.mg_none_of KX G ?_
      k_is
    have b_enumerate : mg "enumerate" = none := by
      refine PySem.W.mg_none_of KX G ?_
      k_is
    have b_int : mg "int" = none := by
      refine PySem.W.mg_none_of KX G ?_
      k_is
    have b_isinstance : mg "isinstance" = none := by
      refine PySem.W.mg_none_of KX G ?_
      k_is
    have b_len : mg "len" = none := by
      refine PySem.W.mg_none_of KX G ?_
      k_is
    have b_list : mg "list" = none := by
      refine PySem.W.mg_none_of KX G ?_
      k_is
    have b_min : mg "min" = none := by
      refine PySem.W.mg_none_of KX G ?_
      k_is
    have b_range : mg "range" = none := by
      refine PySem.W.mg_none_of KX G ?_
      k_is
    have b_sorted : mg "sorted" = none := by
      refine PySem.W.mg_none_of KX G ?_
      k_is
    have b_str : mg "str" = none := by
      refine PySem.W.mg_none_of KX G ?_
      k_is
    have b_tuple : mg "tuple" = none := by
      refine PySem.W.mg_none_of KX G ?_
      k_is
    have F_row_of : My.At (My.kOf KX) mg "row_of" My.s_row_of := by
      unfold My.kOf
      refine' My.at_mk KX G ?a ?l ?c ?k
      (case a => k_is)
      (case l => k_is)
      (case c => k_is)
      (case k => k_is)
    have F_loose_of : My.At (My.kOf KX) mg "loose_of" My.s_loose_of := by
      unfold My.kOf
      refine' My.at_mk KX G ?a ?l ?c ?k
      (case a => k_is)
      (case l => k_is)
      (case c => k_is)
      (case k => k_is)
    have F_row_marks : My.At (My.kOf KX) mg "row_marks" My.s_row_marks := by
      unfold My.kOf
      refine' My.at_mk KX G ?a ?l ?c ?k
      (case a => k_is)
      (case l => k_is)
      (case c => k_is)
      (case k => k_is)
    have F_row_text : My.At (My.kOf KX) mg "row_text" My.s_row_text := by
      unfold My.kOf
      refine' My.at_mk KX G ?a ?l ?c ?k
      (case a => k_is)
      (case l => k_is)
      (case c => k_is)
      (case k => k_is)
    have F__law_pool : My.At (My.kOf KX) mg "_law_pool" My.s__law_pool := by
      unfold My.kOf
      refine' My.at_mk KX G ?a ?l ?c ?k
      (case a => k_is)
      (case l => k_is)
      (case c => k_is)
      (case k => k_is)
    have F__law_draw : My.At (My.kOf KX) mg "_law_draw" My.s__law_draw := by
      unfold My.kOf
      refine' My.at_mk KX G ?a ?l ?c ?k
      (case a => k_is)
      (case l => k_is)
      (case c => k_is)
      (case k => k_is)
    have F__law_same : My.At (My.kOf KX) mg "_law_same" My.s__law_same := by
      unfold My.kOf
      refine' My.at_mk KX G ?a ?l ?c ?k
      (case a => k_is)
      (case l => k_is)
      (case c => k_is)
      (case k => k_is)
    have F__law_letters : My.At (My.kOf KX) mg "_law_letters" My.s__law_letters := by
      unfold My.kOf
      refine' My.at_mk KX G ?a ?l ?c ?k
      (case a => k_is)
      (case l => k_is)
      (case c => k_is)
      (case k => k_is)
    have F__law_text : My.At (My.kOf KX) mg "_law_text" My.s__law_text := by
      unfold My.kOf
      refine' My.at_mk KX G ?a ?l ?c ?k
      (case a => k_is)
      (case l => k_is)
      (case c => k_is)
      (case k => k_is)
    have F__law_names : My.At (My.kOf KX) mg "_law_names" My.s__law_names := by
      unfold My.kOf
      refine' My.at_mk KX G ?a ?l ?c ?k
      (case a => k_is)
      (case l => k_is)
      (case c => k_is)
      (case k => k_is)
    have F__law_marks : My.At (My.kOf KX) mg "_law_marks" My.s__law_marks := by
      unfold My.kOf
      refine' My.at_mk KX G ?a ?l ?c ?k
      (case a => k_is)
      (case l => k_is)
      (case c => k_is)
      (case k => k_is)
    have F__law_cut : My.At (My.kOf KX) mg "_law_cut" My.s__law_cut := by
      unfold My.kOf
      refine' My.at_mk KX G ?a ?l ?c ?k
      (case a => k_is)
      (case l => k_is)
      (case c => k_is)
      (case k => k_is)
    have F__law_of_row : My.At (My.kOf KX) mg "_law_of_row" My.s__law_of_row := by
      unfold My.kOf
      refine' My.at_mk KX G ?a ?l ?c ?k
      (case a => k_is)
      (case l => k_is)
      (case c => k_is)
      (case k => k_is)
    have F__law_cut_right : My.At (My.kOf KX) mg "_law_cut_right" My.s__law_cut_right := by
      unfold My.kOf
      refine' My.at_mk KX G ?a ?l ?c ?k
      (case a => k_is)
      (case l => k_is)
      (case c => k_is)
      (case k => k_is)
    have F__law_row : My.At (My.kOf KX) mg "_law_row" My.s__law_row := by
      unfold My.kOf
      refine' My.at_mk KX G ?a ?l ?c ?k
      (case a => k_is)
      (case l => k_is)
      (case c => k_is)
      (case k => k_is)
    refine' My.fin_of (st := My.s_law) KX G hmg ?a ?l ?c ?k (fun s v => .of_eq rfl) (fun f fd F base => ?_)
    (case a => k_is)
    (case l => k_is)
    (case c => k_is)
    (case k => k_is)
    have c_row_of := My.ok_row_of (P := (PySem.Challenge.rw_seamsight_k02_rows_and_marks).prog) (w := w) (base := base)  F_row_of b_enumerate b_tuple
    have c_loose_of := My.ok_loose_of (P := (PySem.Challenge.rw_seamsight_k02_rows_and_marks).prog) (w := w) (base := base)  F_loose_of b_enumerate
    have c_row_marks := My.ok_row_marks (P := (PySem.Challenge.rw_seamsight_k02_rows_and_marks).prog) (w := w) (base := base)  F_row_marks b_len
    have c_row_text := My.ok_row_text (P := (PySem.Challenge.rw_seamsight_k02_rows_and_marks).prog) (w := w) (base := base)  F_row_text 
    have c__law_pool := My.ok__law_pool (P := (PySem.Challenge.rw_seamsight_k02_rows_and_marks).prog) (w := w) (base := base)  F__law_pool b_int b_abs
    have c__law_draw := My.ok__law_draw (P := (PySem.Challenge.rw_seamsight_k02_rows_and_marks).prog) (w := w) (base := base)  F__law_draw b_int
    have c__law_same := My.ok__law_same (P := (PySem.Challenge.rw_seamsight_k02_rows_and_marks).prog) (w := w) (base := base)  F__law_same b_len b_range b_isinstance b_bool b_int b_str b_tuple b_list
    have c__law_letters := My.ok__law_letters (P := (PySem.Challenge.rw_seamsight_k02_rows_and_marks).prog) (w := w) (base := base) c__law_draw F__law_letters b_range b_sorted
    have c__law_text := My.ok__law_text (P := (PySem.Challenge.rw_seamsight_k02_rows_and_marks).prog) (w := w) (base := base) c__law_draw F__law_text b_range b_len
    have c__law_names := My.ok__law_names (P := (PySem.Challenge.rw_seamsight_k02_rows_and_marks).prog) (w := w) (base := base) c__law_draw F__law_names 
    have c__law_marks := My.ok__law_marks (P := (PySem.Challenge.rw_seamsight_k02_rows_and_marks).prog) (w := w) (base := base) c__law_draw F__law_marks b_range b_len b_min
    have c__law_cut := My.ok__law_cut (P := (PySem.Challenge.rw_seamsight_k02_rows_and_marks).prog) (w := w) (base := base)  F__law_cut b_range b_len b_tuple
    have c__law_of_row := My.ok__law_of_row (P := (PySem.Challenge.rw_seamsight_k02_rows_and_marks).prog) (w := w) (base := base)  F__law_of_row b_len
    have c__law_cut_right := My.ok__law_cut_right (P := (PySem.Challenge.rw_seamsight_k02_rows_and_marks).prog) (w := w) (base := base) c__law_cut c__law_same c_row_of c_loose_of c_row_text c_row_marks F__law_cut_right b_len
    have c__law_row := My.ok__law_row (P := (PySem.Challenge.rw_seamsight_k02_rows_and_marks).prog) (w := w) (base := base) c__law_draw c__law_text F__law_row b_range b_len b_tuple
    exact My.ok_law c__law_pool c__law_draw c__law_letters c__law_names c__law_text c__law_marks c__law_cut_right c__law_row c__law_of_row c__law_same c_row_of c_loose_of c_row_text c_row_marks F b_len
