import PyProof.Rows.All
import Wide.All
import OpenK.AllK
import Wide.FinOn
import PyProof.Rows.All
import Wide.All
import OpenK.AllK
import Wide.FinOn
import HandS.ForMost
import HandS.TupAny
import HandS.IsInst
import HandS.Walk
import HandS.Small
import HandS.Conv
import HandS.Style
import HandS.DictComp
import PyProof.Rows.StrFirst
import HandS.ForExc
import HandS.CallSlots
import HandS.ExcInit
import HandS.ExcField
import HandS.Wide
import HandS.SortInts
import HandS.RevRange
import HandS.Flow
import HandS.ExcIs
import HandS.StrMore
import KE.KExcIs
import HandS.TupMul
import KE.GoesMore
import KE.KSortTupG
import HandS.Keys
import HandS.SetFor
import HandS.NoneIn
import HandS.DictTup
import HandS.Strs
import HandS.Iter
import PySem.Challenge.RW_seamsight_k24_margins
set_option Elab.async false
set_option linter.all false
set_option maxRecDepth 100000
set_option maxHeartbeats 4000000
namespace My
open PySem PySem.Spec PyProof.Rows L2

/-! ## texts as lists of codes -/
abbrev S (l : List Nat) : Str := ⟨l.toArray⟩
theorem S_len (l : List Nat) : (S l).length = l.length := by simp [Str.length]
theorem S_tl (l : List Nat) : (S l).cps.toList = l := rfl
theorem exS (x : Str) : x = S x.cps.toList := (TL.mk_tl x).symm
theorem S_inj {a b : List Nat} : S a = S b ↔ a = b := by
  constructor
  · intro h
    have := congrArg (fun x : Str => x.cps.toList) h
    simpa using this
  · intro h
    rw [h]
theorem S_app (a b : List Nat) : S a ++ S b = S (a ++ b) := TL.ext_tl (by rw [TL.tl_append])
theorem S_cut (l : List Nat) (lo hi : Option Int) : cutS (S l) lo hi = S ((l.drop (HT.sIx l.length 0 lo)).take (HT.sIx l.length l.length hi - HT.sIx l.length 0 lo)) := by
  unfold cutS
  rw [S_len]
def cutL {α : Type} (l : List α) (lo hi : Option Int) : List α := (l.drop (HT.sIx l.length 0 lo)).take (HT.sIx l.length l.length hi - HT.sIx l.length 0 lo)
theorem cutV_map {α : Type} (f : α → V) (l : List α) (lo hi : Option Int) : cutV (l.map f) lo hi = (cutL l lo hi).map f := by
  unfold cutV cutL
  rw [List.length_map, ← List.map_drop, ← List.map_take]
abbrev vS (l : List Nat) : V := .str (S l)
theorem line_eq : sizeLine = 16777216 := sizeLine_eq

/-! ## operations on texts, told by lists -/
def zAddS : R2 := fun x y H Q => ∃ a b, x = vS a ∧ y = vS b ∧ a.length + b.length ≤ 16777216 ∧ Q (vS (a ++ b)) H
theorem op_addS {X : Cx} : OpR X (binaryOp .Add) zAddS := by
  intro pins s σ H x y v u Q I rx ry h
  obtain ⟨a, b, rfl, rfl, hz, q⟩ := h
  refine op_add_str pins s σ H _ _ v u Q I rx ry ⟨S a, S b, rfl, rfl, by rw [S_len, S_len, line_eq]; exact hz, ?_⟩
  rw [S_app]
  exact q
theorem foldl_app (x : Array Nat) : ∀ (n : Nat) (a : Array Nat), (List.replicate n x).foldl (· ++ ·) a = (a.toList ++ (List.replicate n x.toList).flatten).toArray
  | 0, a => by simp
  | n + 1, a => by
    rw [List.replicate_succ, List.foldl_cons, foldl_app x n (a ++ x), List.replicate_succ, List.flatten_cons, Array.toList_append, List.append_assoc]
def rep {α : Type} (n : Int) (l : List α) : List α := (List.replicate n.toNat l).flatten
theorem rep_len {α : Type} (n : Int) (l : List α) : (rep n l).length = n.toNat * l.length := by
  unfold rep
  simp
def zMulS : R2 := fun x y H Q => ∃ (l : List Nat) (n : Int), x = vS l ∧ y = .int n ∧ -100000000 ≤ n ∧ n ≤ 100000000 ∧ l.length * n.toNat ≤ 16777216 ∧ Q (vS (rep n l)) H
theorem op_mulS {X : Cx} : OpR X (binaryOp .Mult) zMulS := by
  intro pins s σ H x y v u Q I rx ry h
  obtain ⟨l, n, rfl, rfl, h1, h2, hz, q⟩ := h
  obtain ⟨t, rfl⟩ := rx
  obtain ⟨t', rfl⟩ := ry
  refine PySem.P.mul_str (x := S l) (n := n) ?_ (fun g1 g2 => ?_) (fun g1 g2 => ?_) ?_
  · have e1 : ¬ n < -(2 ^ 63 : Int) := by omega
    have e2 : ¬ n ≥ (2 ^ 63 : Int) := by omega
    rw [decide_eq_false e1, decide_eq_false e2]
    rfl
  · rw [S_len]
    have hn : 1 ≤ n := by omega
    intro hgt
    have hle : (l.length : Int) * n ≤ 16777216 := by
      have e : ((l.length * n.toNat : Nat) : Int) ≤ ((16777216 : Nat) : Int) := Int.ofNat_le.mpr hz
      have e2 : ((n.toNat : Nat) : Int) = n := by omega
      rw [Int.natCast_mul, e2] at e
      exact e
    have hl : (l.length : Int) ≤ 16777216 := by
      have hmul : (l.length : Int) * 1 ≤ (l.length : Int) * n := Int.mul_le_mul_of_nonneg_left hn (by omega)
      omega
    have hdiv : (16777216 : Int) ≤ (2 ^ 63 - 1) / n := by
      rw [Int.le_ediv_iff_mul_le (by omega)]
      omega
    omega
  · rw [S_len]
    unfold Builtin.Str.tooLong
    rw [line_eq]
    exact decide_eq_false (by omega)
  · by_cases hn : n < 1
    · rw [if_pos hn]
      refine ⟨by decide, vS (rep n l), H, I.tok _, ?_, q⟩
      have e0 : n.toNat = 0 := by omega
      refine ⟨s.toks, ?_⟩
      show Value.str Str.empty s.toks = Value.str (S (rep n l)) _
      unfold rep
      rw [e0]
      rfl
    · rw [if_neg hn]
      by_cases he : (n == 1 || (S l).length == 0) = true
      · rw [if_pos he]
        have er : rep n l = l := by
          unfold rep
          simp only [Bool.or_eq_true, beq_iff_eq, S_len] at he
          rcases he with e | e
          · subst e
            simp
          · have : l = [] := List.eq_nil_of_length_eq_zero e
            subst this
            simp
        refine ⟨vS (rep n l), H, I, ⟨t, by rw [er]⟩, q⟩
      · rw [if_neg he]
        have ec : (⟨(List.replicate n.toNat (S l).cps).foldl (· ++ ·) #[]⟩ : Str) = S (rep n l) := by
          rw [foldl_app]
          rfl
        rw [ec]
        refine ⟨by rw [S_len, rep_len, Nat.mul_comm, line_eq]; exact hz, vS (rep n l), H, I.tok _, ⟨_, rfl⟩, q⟩

/-! ## enumerate of a text -/
def Ites (x : Str) : It := ⟨fun i _ => i < x.cps.size, fun i H v H' => ∃ T c, v = .ref T ∧ H T = none ∧ H' = upd H T (.tup [.int (i : Nat), .str ⟨#[c]⟩]) ∧ x.cps[i]? = some c, fun i _ => i = x.cps.size⟩
theorem turn_enumS {P : Program} {w : World} {K : PySem.W.Frag} {elts : List Expr} {kk : Nat} {tpos : Pos} (e it : Addr) (x : Str) (t : Tok) (ty : String) (hty : ty = "str_ascii_iterator" ∨ ty = "str_iterator") :
    Turn P w K (.Tuple elts kk tpos) (Ites x) [e, it] e (fun i h => (∃ old, IsEnum h e it ((i : Nat) : Int) old) ∧ h.IsStrIter it ty x t i ∧ e ≠ it) where
  mem := by simp
  obj := fun i h st b hb => by
    obtain ⟨⟨old, he⟩, ⟨o, ho, hc, hd⟩, _⟩ := st
    have e' : b = e ∨ b = it := by simpa using hb
    rcases e' with z | z
    · rw [z]; exact ⟨_, he, fun v q => nomatch q⟩
    · rw [z]; exact ⟨o, ho, fun v q => by rw [hd] at q; cases q⟩
  keep := fun i h h' st k => let ⟨⟨old, he⟩, ⟨o, ho, r⟩, hne⟩ := st; ⟨⟨old, k e (by simp) _ he⟩, ⟨o, k it (by simp) o ho, r⟩, hne⟩
  item := by
    intro X hP hw hK hc i pins s σ H E I hf st hg
    subst hP hw hK
    obtain ⟨⟨old, he⟩, hit, hne⟩ := st
    have hel : e < s.heap.objs.size := Heap.lt_size he
    have hil : it < s.heap.objs.size := by obtain ⟨_, q, _⟩ := hit; exact Heap.lt_size q
    have D : Draws X.prog X.w X.A.in1 it [it] x.cps.size (fun i v => ∃ c u, x.cps[i]? = some c ∧ v = .str ⟨#[c]⟩ u) (fun i h => h.IsStrIter it ty x t i) := by
      rcases hty with q | q
      · rw [q]; exact Draws.strAscii (A := X.A.in1) (I.ok.hd hc) it x t
      · rw [q]; exact Draws.strWide (A := X.A.in1) (I.ok.hd hc) it x t
    refine wpAny_pyNext_enum_itemD D he hit hg hne (by simpa using hne) fun v h' tk hv ho hit' hT hsz hk => ?_
    obtain ⟨c, u, hcx, rfl⟩ := hv
    refine ⟨_, rfl, wpAny_letOwnedTupleGo_enum (s := { s with heap := h', toks := tk + 1 }) ho fun h'' he' sb => ?_⟩
    have hT2 : h''.get? s.heap.objs.size = some { cls := .type "tuple", data := .seq #[.int i tk, .str ⟨#[c]⟩ u] } := (sb.2 _ (Nat.ne_of_gt hel)).trans hT
    have new : ObjOk X.prog X.w (upd H s.heap.objs.size (.tup [.int (i : Nat), .str ⟨#[c]⟩])) h'' s.heap.objs.size (.tup [.int (i : Nat), .str ⟨#[c]⟩]) :=
      ⟨by show 2 ≤ sizeLine; decide, [.int i tk, .str ⟨#[c]⟩ u], .cons ⟨_, rfl⟩ (.cons ⟨_, rfl⟩ .nil), ⟨_, hT2, rfl, _, rfl⟩⟩
    have I1 : Inv X pins σ (upd H s.heap.objs.size (.tup [.int (i : Nat), .str ⟨#[c]⟩])) { s with heap := h'', toks := tk + 1 } :=
      I.turnedNew (ch := [e, it]) (fun b ob hb q => (sb.2 b (fun z => hb (by simp [z]))).trans (hk b ob (fun z => hb (by simp [z])) (fun z => hb (by simp [z])) q)) hf (Nat.le_refl _) new
    refine ⟨.ref s.heap.objs.size, _, I1, rfl, ⟨_, c, rfl, I.hok.fresh (Nat.le_refl _), rfl, hcx⟩, ⟨⟨.str ⟨#[c]⟩ u, ?_⟩, ?_, hne⟩, fun b hb => ?_⟩
    · have e1 : ((i + 1 : Nat) : Int) = (i : Int) + 1 := by omega
      rw [e1]; exact he'
    · obtain ⟨o, q, r⟩ := hit'
      exact ⟨o, (sb.2 it (Ne.symm hne)).trans q, r⟩
    · have hb' : b < s.heap.objs.size := by
        have e' : b = e ∨ b = it := by simpa using hb
        rcases e' with z | z
        · rw [z]; exact hel
        · rw [z]; exact hil
      rw [upd_ne (Nat.ne_of_lt hb')]
      exact (hf b hb).1
  done := by
    intro X hP hw hK hc i pins s σ H E I hf st hg
    subst hP hw hK
    obtain ⟨⟨old, he⟩, hit, hne⟩ := st
    obtain ⟨f0, f1, f2, f3, f4, f5⟩ := hf it (by simp)
    have hi : i = x.cps.size := hg
    subst hi
    have D : Draws X.prog X.w X.A.in1 it [it] x.cps.size (fun i v => ∃ c u, x.cps[i]? = some c ∧ v = .str ⟨#[c]⟩ u) (fun i h => h.IsStrIter it ty x t i) := by
      rcases hty with q | q
      · rw [q]; exact Draws.strAscii (A := X.A.in1) (I.ok.hd hc) it x t
      · rw [q]; exact Draws.strWide (A := X.A.in1) (I.ok.hd hc) it x t
    exact wpAny_pyNext_enum_endD D he hit fun h' eb => ⟨rfl, I.turned (t' := s.toks) (fun b o hb q => eb b o hb q) f0 f1 f3 f4 f5⟩
  self := fun A i s Q E st h => let ⟨⟨_, he⟩, _⟩ := st; wpAny_pyIter_enum he h
def iEnumS (ta : TA) : TI := fun σ H R => ta σ H fun vs H1 => ∃ x, vs = [.str x] ∧ R (Ites x) H1
theorem pi_enumS {X : Cx} {e : Expr} {ta : TA} {p pos tpos : Pos} {elts : List Expr} {kk : Nat} (hg : Gl X "enumerate") (hm : X.mg "enumerate" = none) (ha : PA X [e] ta) (hs : starEach [e] X.env = [(false, eval e X.env)] := by rfl) :
    PI X (.Tuple elts kk tpos) (.Call (.Name "enumerate" p) [e] [] pos) (iEnumS ta) := by
  refine ⟨fun pins s σ H R I h => ?_⟩
  refine Call_ (ld_blt I hg hm boot_enumerate (PyProof.Rows.callWith_type1 (thn (ha.run pos pins s σ H _ I h) fun us s1 ⟨vs, H1, I1, r1, q1⟩ => ?_) hs rfl))
  obtain ⟨x, ex, q⟩ := q1
  subst ex
  cases r1 with
  | cons r rr =>
    cases rr
    obtain ⟨t, rfl⟩ := r
    refine call_enumerate_str fun h' he hit hsz hk => wpAny_pyIter_enum he ?_
    have I2 : Inv X pins σ H1 { s1 with heap := h' } := I1.kept (t' := s1.toks) hk
    have hty : strIterType x = "str_ascii_iterator" ∨ strIterType x = "str_iterator" := by
      unfold strIterType
      cases x.cps.all (· < 128) <;> simp
    refine ⟨s1.heap.objs.size + 1, [s1.heap.objs.size + 1, s1.heap.objs.size], _, _, H1, rfl, I2, turn_enumS (s1.heap.objs.size + 1) s1.heap.objs.size x t _ hty, ⟨⟨.none, he⟩, hit, Nat.succ_ne_self _⟩, fun b hb => ?_, q⟩
    have e' : b = s1.heap.objs.size + 1 ∨ b = s1.heap.objs.size := by simpa using hb
    have hle : s1.heap.objs.size ≤ b := by
      rcases e' with z | z
      · rw [z]; exact Nat.le_add_right _ _
      · rw [z]; exact Nat.le_refl _
    exact I1.fpOk hle (I1.hok.fresh hle)
theorem for_enumS {l : List Nat} {g : TG} {tb : TS} {D : Ends} {σ : L2.St} {H : Hp} (Pv : Nat → L2.St → Hp → Prop) (h0 : Pv 0 σ H)
    (hs : ∀ i c σ H T, l[i]? = some c → Pv i σ H → H T = none → g (.ref T) σ (upd H T (.tup [.int (i : Nat), vS [c]])) fun σ2 H2 => tb { D with nx := Pv (i + 1), ct := Pv (i + 1), bk := D.nx } σ2 H2) (hd : ∀ σ H, Pv l.length σ H → D.nx σ H) :
    ∃ W : Nat → Nat → L2.St → Hp → Prop, (∃ m, W 0 m σ H) ∧ ∀ i m σ H, W i m σ H →
      ((Ites (S l)).stop i H ∧ D.nx σ H) ∨ ((Ites (S l)).go i H ∧ ∃ N : L2.St → Hp → Prop, (∀ σ' H', N σ' H' → ∃ m', m' < m ∧ W (i + 1) m' σ' H') ∧ ∀ x H', (Ites (S l)).yld i H x H' → g x σ H' fun σ2 H2 => tb { D with nx := N, ct := N, bk := D.nx } σ2 H2) := by
  refine ⟨fun i m σ H => m = l.length - i ∧ i ≤ l.length ∧ Pv i σ H, ⟨l.length, by simp, Nat.zero_le _, h0⟩, ?_⟩
  rintro i m σ H ⟨rfl, hi, p⟩
  by_cases hlt : i < l.length
  · refine .inr ⟨by simpa [Ites] using hlt, Pv (i + 1), fun σ' H' p' => ⟨l.length - (i + 1), by omega, rfl, hlt, p'⟩, fun x H' y => ?_⟩
    obtain ⟨T, c, rfl, hT, rfl, hc⟩ := y
    exact hs i c σ H T (by simpa using hc) p hT
  · have e : i = l.length := by omega
    subst e
    exact .inl ⟨by simp [Ites], hd σ H p⟩

/-! ## named rules -/
def zEqI : R2 := rI0 fun i j => .bl (decide (i = j))
def zNeI : R2 := rI0 fun i j => .bl (!decide (i = j))
def zEqS : R2 := fun x y H Q => ∃ a b : List Nat, x = vS a ∧ y = vS b ∧ Q (.bl (decide (a = b))) H
def zNeS : R2 := fun x y H Q => ∃ a b : List Nat, x = vS a ∧ y = vS b ∧ Q (.bl (!decide (a = b))) H
theorem dec_I {i j : Int} : decide (V.int i = V.int j) = decide (i = j) := by
  by_cases h : i = j
  · subst h; simp
  · rw [decide_eq_false h, decide_eq_false (fun e => h (V.int.inj e))]
theorem dec_S {a b : List Nat} : decide (vS a = vS b) = decide (a = b) := by
  by_cases h : a = b
  · subst h; simp
  · rw [decide_eq_false h, decide_eq_false (fun e => h (S_inj.mp (V.str.inj e)))]
section
variable {X : Cx}
theorem op_eqI : OpR X (compareOp .Eq) zEqI := by
  intro pins s σ H x y v u Q I rx ry h
  obtain ⟨i, j, rfl, rfl, q⟩ := h
  exact op_eq pins s σ H _ _ v u Q I rx ry ⟨rfl, by rw [dec_I]; exact q⟩
theorem op_neI : OpR X (compareOp .NotEq) zNeI := by
  intro pins s σ H x y v u Q I rx ry h
  obtain ⟨i, j, rfl, rfl, q⟩ := h
  exact op_ne pins s σ H _ _ v u Q I rx ry ⟨rfl, by rw [dec_I]; exact q⟩
theorem op_eqS : OpR X (compareOp .Eq) zEqS := by
  intro pins s σ H x y v u Q I rx ry h
  obtain ⟨i, j, rfl, rfl, q⟩ := h
  exact op_eq pins s σ H _ _ v u Q I rx ry ⟨rfl, by rw [dec_S]; exact q⟩
theorem op_neS : OpR X (compareOp .NotEq) zNeS := by
  intro pins s σ H x y v u Q I rx ry h
  obtain ⟨i, j, rfl, rfl, q⟩ := h
  exact op_ne pins s σ H _ _ v u Q I rx ry ⟨rfl, by rw [dec_S]; exact q⟩
def zLenS : List V → Hp → VK → Prop := fun xs H Q => ∃ l, xs = [vS l] ∧ l.length ≤ 16777216 ∧ Q (.int l.length) H
theorem call_lenS : CallR X (.builtin "len") zLenS := by
  intro pins s σ H xs us Q I r h
  obtain ⟨l, rfl, hz, q⟩ := h
  refine call_len_str pins s σ H _ us Q I r ⟨S l, rfl, by rw [S_len, line_eq]; exact hz, ?_⟩
  rw [S_len]
  exact q
def zLenQ (K : PySem.W.Frag) : List V → Hp → VK → Prop := fun xs H Q => ∃ p ys, xs = [.ref p] ∧ (SqL K H p ys ∨ SqT K H p ys) ∧ Q (.int ys.length) H
theorem call_lenQ : CallR X (.builtin "len") (zLenQ X.K) := call_len_seq
def zInt1 : List V → Hp → VK → Prop := fun xs H Q => ∃ i, xs = [.int i] ∧ Q (.int i) H
theorem call_intI : CallR X (.type "int") zInt1 := by
  intro pins s σ H xs us Q I r h
  obtain ⟨i, rfl, q⟩ := h
  exact call_int1 pins s σ H _ us Q I r (.inl ⟨i, rfl, q⟩)
def zAbs : List V → Hp → VK → Prop := fun xs H Q => ∃ i : Int, xs = [.int i] ∧ Q (.int (i.natAbs : Int)) H
theorem call_absI : CallR X (.builtin "abs") zAbs := by
  intro pins s σ H xs us Q I r h
  obtain ⟨i, rfl, q⟩ := h
  refine call_abs pins s σ H _ us Q I r ⟨i, rfl, ?_⟩
  have e : (if i < 0 then -i else i) = (i.natAbs : Int) := by
    split <;> omega
  rw [e]
  exact q
def zMin2 : List V → Hp → VK → Prop := fun xs H Q => ∃ i j : Int, xs = [.int i, .int j] ∧ Q (.int (min i j)) H
theorem call_minI (hc : X.calm = true) : CallR X (.builtin "min") zMin2 := by
  intro pins s σ H xs us Q I r h
  obtain ⟨i, j, rfl, q⟩ := h
  refine call_min2 hc pins s σ H _ us Q I r ⟨i, j, rfl, ?_⟩
  have e : (if j < i then j else i) = min i j := by
    split <;> omega
  rw [e]
  exact q
def zIxS : R2 := fun x y H Q => ∃ (l : List Nat) (i : Int) (c : Nat), x = vS l ∧ y = .int i ∧ l.length ≤ 16777216 ∧ atI l i = some c ∧ Q (vS [c]) H
theorem ix_S : IxR X zIxS := by
  intro value slice pins s σ H x y v u Q I rx ry h hs
  obtain ⟨l, i, c, rfl, rfl, hz, ha, q⟩ := h
  refine ix_str value slice pins s σ H _ _ v u Q I rx ry ⟨S l, i, c, rfl, rfl, by rw [S_len, line_eq]; exact hz, ha, q⟩ hs
def zSlS : V → Option Int → Option Int → Hp → VK → Prop := fun x lo hi H Q => ∃ l, x = vS l ∧ l.length ≤ 16777216 ∧ Q (vS (cutL l lo hi)) H
theorem sl_S : SlR X zSlS := by
  intro pins s σ H x v vl vu lo hi sl Q I rx hs pl pu h
  obtain ⟨l, rfl, hz, q⟩ := h
  refine sl_str pins s σ H _ v vl vu lo hi sl Q I rx hs pl pu ⟨S l, rfl, by rw [S_len, line_eq]; exact hz, ?_⟩
  rw [S_cut]
  exact q
/-- a text not in a list of texts -/
theorem eqV_S {a b : List Nat} : eqV (vS a) (vS b) = decide (a = b) := by
  show decide (S a = S b) = decide (a = b)
  by_cases h : a = b
  · subst h; simp
  · rw [decide_eq_false h, decide_eq_false (fun e => h (S_inj.mp e))]
theorem inV_S (a : List Nat) (bs : List (List Nat)) : inV (vS a) (bs.map vS) = decide (a ∈ bs) := by
  induction bs with
  | nil => rfl
  | cons b r ih =>
    show (eqV (vS b) (vS a) || inV (vS a) (r.map vS)) = _
    rw [ih, eqV_S]
    by_cases h : b = a
    · subst h; simp
    · have h' : ¬ a = b := fun e => h e.symm
      rw [decide_eq_false h]
      simp [h']
theorem flat_S (bs : List (List Nat)) : (bs.map vS).all flatV = true := by
  rw [List.all_eq_true]
  intro x hx
  obtain ⟨b, _, rfl⟩ := List.mem_map.mp hx
  rfl
def zNinL (K : PySem.W.Frag) : R2 := fun x y H Q => ∃ (a : List Nat) (p : Addr) (bs : List (List Nat)), x = vS a ∧ y = .ref p ∧ (SqL K H p (bs.map vS) ∨ SqT K H p (bs.map vS)) ∧ Q (.bl (!decide (a ∈ bs))) H
theorem op_ninL : OpR X (compareOp .NotIn) (zNinL X.K) := by
  intro pins s σ H x y v u Q I rx ry h
  obtain ⟨a, p, bs, rfl, rfl, hp, q⟩ := h
  refine op_notIn_seq pins s σ H _ _ v u Q I rx ry ⟨p, bs.map vS, rfl, hp, rfl, flat_S bs, ?_⟩
  show Q (.bl (!inV (vS a) (bs.map vS))) H
  rw [inV_S]
  exact q
theorem joinL_nil : ∀ xs : List (List Nat), TL.joinL [] xs = xs.flatten
  | [] => rfl
  | [a] => by simp [TL.joinL]
  | a :: b :: r => by
    have ih := joinL_nil (b :: r)
    simp only [TL.joinL, List.nil_append, List.flatten_cons] at ih ⊢
    first | done | rw [ih]
/-- "".join(a list or tuple of texts) -/
def zJoin0 (K : PySem.W.Frag) : V → List V → Hp → VK → Prop := fun x xs H Q => ∃ (p : Addr) (ys : List (List Nat)), x = vS [] ∧ xs = [.ref p] ∧ (SqL K H p (ys.map vS) ∨ SqT K H p (ys.map vS)) ∧ ys.flatten.length ≤ 16777216 ∧ Q (vS ys.flatten) H
theorem map_S (ys : List (List Nat)) : ys.map vS = (ys.map S).map V.str := by
  rw [List.map_map]
  rfl
theorem mt_join0 : MtR X "str.join" (zJoin0 X.K) := by
  intro pins s σ H x xs v us Q I rx rs h
  obtain ⟨p, ys, rfl, rfl, hp, hz, q⟩ := h
  refine mt_join pins s σ H _ _ v us Q I rx rs ⟨S [], p, ys.map S, rfl, rfl, by rw [← map_S]; exact hp, ?_, ?_⟩
  · have e1 : (S []).length = 0 := rfl
    have e2 : ((ys.map S).map (·.length)).sum = ys.flatten.length := by
      rw [List.map_map, List.length_flatten]
      congr 1



    rw [e1, e2]
    exact hz
  · have e : Txt.join (S []) (ys.map S) = S ys.flatten := by
      rw [TL.join_eq]
      apply TL.ext_tl
      rw [TL.tl_join, List.map_map]
      have e3 : TL.tl (S []) = [] := rfl
      have e4 : ys.map (TL.tl ∘ S) = ys := by
        conv => rhs; rw [← List.map_id ys]
        rfl
      rw [e3, e4, joinL_nil]
    rw [e]
    exact q
/-- sorted(a list of texts), fewer than 64 -/
def zSortedS (K : PySem.W.Frag) : List V → Hp → VK → Prop := fun vs H Q => ∃ (a : Addr) (xs : List (List Nat)), vs = [V.ref a] ∧ SqL K H a (xs.map vS) ∧ xs.length < 64 ∧
  ∀ (ys : List (List Nat)) (p : Addr), ys.Perm xs → sortedS (ys.map S) = true → H p = none → Q (.ref p) (upd H p (.lst (ys.map vS)))
theorem cr_sortedT : CallR X (.builtin "sorted") (zSortedS X.K) := by
  intro pins s σ H vs us Q I r h
  obtain ⟨a, xs, rfl, hs, h64, q⟩ := h
  refine cr_sortedS pins s σ H _ us Q I r ⟨a, xs.map S, rfl, by rw [← map_S]; exact hs, by rw [List.length_map]; exact h64, fun ys p h1 h2 h3 => ?_⟩
  have e : ys.map V.str = (ys.map (fun y => y.cps.toList)).map vS := by
    rw [List.map_map]
    apply List.map_congr_left
    intro y _
    show V.str y = V.str (S y.cps.toList)
    rw [← exS]
  have e2 : (ys.map (fun y => y.cps.toList)).map S = ys := by
    rw [List.map_map]
    conv => rhs; rw [← List.map_id ys]
    apply List.map_congr_left
    intro y _
    exact (exS y).symm
  rw [e]
  refine q _ p ?_ ?_ h3
  · have h4 := h1.map (fun y : Str => y.cps.toList)
    have e5 : (xs.map S).map (fun y : Str => y.cps.toList) = xs := by
      rw [List.map_map]
      conv => rhs; rw [← List.map_id xs]
      rfl
    rw [e5] at h4
    exact h4
  · rw [e2]
    exact h2
/-- a test by truth, named -/
def tTru (K : PySem.W.Frag) (ta : TE) : TT := fun σ H Q => ta σ H fun x H' => ∃ k, TruV K x H' k ∧ Q k H'
theorem pt_tru {a : Expr} {ta : TE} (ha : PE X a ta) (he : ∀ whole, isTrue a X.env whole = (do let v ← whole; standAt a.pos; holding [v] (truthy v))) : PT X a (tTru X.K ta) := pt_truth ha he
theorem pe_strL {x : Str} {j pos} (l : List Nat) (h : x = S l) : PE X (.Constant (.str x) j pos) (tC (vS l)) := by
  have e := pe_str (X := X) (x := x) (j := j) (pos := pos)
  rw [h] at e ⊢
  exact e
end

/-! ## steps -/
section
variable {σ : L2.St} {H : Hp} {Q : VK} {D : Ends} {ta tb te tc : TE} {t u : TS} {g : TG} {v : V} {K : PySem.W.Frag}
theorem w_seq (h : t { D with nx := u D } σ H) : tSeq t u D σ H := h
theorem w_asg (h : te σ H (fun x H1 => g x σ H1 D.nx)) : tAsg te g D σ H := h
theorem w_gName {i : Nat} {Q : L2.St → Hp → Prop} (h : Q (σ.set i (some v)) H) : gName i v σ H Q := h
theorem w_gTup {K : PySem.W.Frag} {n : Nat} {ts : TGs} {a : Addr} {xs : List V} {Q : L2.St → Hp → Prop} (h1 : SqT K H a xs) (h2 : xs.length = n) (h : ts xs σ H Q) : gTup K n ts (.ref a) σ H Q := ⟨a, xs, rfl, h1, h2, h⟩
theorem w_gCons {t : TG} {u : TGs} {vs : List V} {Q : L2.St → Hp → Prop} (h : t v σ H fun σ' H' => u vs σ' H' Q) : gCons t u (v :: vs) σ H Q := ⟨v, vs, rfl, h⟩
theorem w_gNil {Q : L2.St → Hp → Prop} (h : Q σ H) : gNil [] σ H Q := ⟨rfl, h⟩
theorem w_gSub {to ti : TE} {ts : TSet} {Q : L2.St → Hp → Prop} (h : to σ H fun o H1 => ti σ H1 fun i H2 => ts o i v H2 fun H3 => Q σ H3) : gSub to ti ts v σ H Q := h
theorem w_var {i : Nat} (h1 : σ[i]? = some (some v)) (h : Q v H) : tVar i σ H Q := ⟨v, h1, h⟩
theorem w_c (h : Q v H) : tC v σ H Q := h
theorem w_op {r : R2} (h : ta σ H fun x H1 => tb σ H1 fun y H2 => r x y H2 Q) : tOp r ta tb σ H Q := h
theorem w_un {r : V → Hp → VK → Prop} (h : ta σ H fun x H1 => r x H1 Q) : tUn r ta σ H Q := h
theorem w_nil {Q : List V → Hp → Prop} (h : Q [] H) : tNil σ H Q := h
theorem w_cons {tr : TA} {Q : List V → Hp → Prop} (h : ta σ H fun x H1 => tr σ H1 fun xs H2 => Q (x :: xs) H2) : tCons ta tr σ H Q := h
theorem w_CB {r : List V → Hp → VK → Prop} {t : TA} (h : t σ H fun vs H1 => r vs H1 Q) : tCB r t σ H Q := h
theorem w_call {sp : Sp} {E : XK} {t : TA} (h : t σ H fun vs H1 => sp vs H1 Q E) : tCall sp [] E t σ H Q := by
  have e : (fun vs H1 => sp (vs ++ []) H1 Q E) = (fun vs H1 => sp vs H1 Q E) := by
    funext vs H1
    rw [List.append_nil]
  show t σ H fun vs H1 => sp (vs ++ []) H1 Q E
  rw [e]
  exact h
theorem w_drop (h : te σ H fun _ H1 => D.nx σ H1) : tDrop te D σ H := h
theorem w_ret (h : te σ H D.rt) : tRet te D σ H := h
theorem w_retN (h : D.rt .non H) : tRetN D σ H := h
theorem w_next (h : D.nx σ H) : tNext D σ H := h
theorem w_brk (h : D.bk σ H) : tBreak D σ H := h
theorem w_cont (h : D.ct σ H) : tCont D σ H := h
theorem w_if {c : TT} (h : c σ H fun b H1 => if b = true then t D σ H1 else u D σ H1) : tIfS c t u D σ H := h
def blQ (x : V) (H : Hp) (Q : Bool → Hp → Prop) : Prop := ∃ k, x = .bl k ∧ Q k H
theorem w_test {Q : Bool → Hp → Prop} (h : te σ H fun x H' => blQ x H' Q) : tTest te σ H Q := h
theorem w_tB {Q : Bool → Hp → Prop} (h : te σ H fun x H' => blQ x H' Q) : tB te σ H Q := h
theorem w_exbl {k : Bool} {Q : Bool → Hp → Prop} (h : Q k H) : blQ (.bl k) H Q := ⟨k, rfl, h⟩
theorem w_and {t u : TT} {Q : Bool → Hp → Prop} (h : t σ H fun c H1 => if c = true then u σ H1 Q else Q false H1) : tAnd t u σ H Q := h
theorem w_or {t u : TT} {Q : Bool → Hp → Prop} (h : t σ H fun c H1 => if c = true then Q true H1 else u σ H1 Q) : tOr t u σ H Q := h
theorem w_not {t : TT} {Q : Bool → Hp → Prop} (h : t σ H fun c H1 => Q (!c) H1) : tNot t σ H Q := h
theorem w_andV (h : ta σ H fun x H1 => blQ x H1 fun c H1 => if c = true then tb σ H1 Q else Q (.bl false) H1) : tAndV ta tb σ H Q := h
theorem w_orV (h : ta σ H fun x H1 => blQ x H1 fun c H1 => if c = true then Q (.bl true) H1 else tb σ H1 Q) : tOrV ta tb σ H Q := h
theorem w_notV (h : ta σ H fun x H1 => blQ x H1 fun c H1 => Q (.bl (!c)) H1) : tNotV ta σ H Q := h
theorem w_ifE {c : TT} (h : c σ H fun b H1 => if b = true then ta σ H1 Q else tb σ H1 Q) : tIf c ta tb σ H Q := h
def newQ (f : List V → HO) (xs : List V) (H : Hp) (Q : VK) : Prop := xs.length ≤ sizeLine ∧ ∀ p, H p = none → Q (.ref p) (upd H p (f xs))
theorem w_tup {t : TA} (h : t σ H fun xs H1 => newQ .tup xs H1 Q) : tTup t σ H Q := h
theorem w_lst {t : TA} (h : t σ H fun xs H1 => newQ .lst xs H1 Q) : tLst t σ H Q := h
theorem w_new {xs : List V} {f : List V → HO} (hl : xs.length ≤ 16777216) (h : ∀ p, H p = none → Q (.ref p) (upd H p (f xs))) : newQ f xs H Q := ⟨by rw [line_eq]; exact hl, h⟩
theorem w_sl {r : V → Option Int → Option Int → Hp → VK → Prop} {tl th : TO} (h : te σ H fun x H1 => tl σ H1 fun l H2 => th σ H2 fun u H3 => r x l u H3 Q) : tSl r te tl th σ H Q := h
theorem w_nopart {Q : Option Int → Hp → Prop} (h : Q none H) : tNoPart σ H Q := h
def intQ (x : V) (H : Hp) (Q : Option Int → Hp → Prop) : Prop := ∃ i, x = .int i ∧ Q (some i) H
theorem w_part {Q : Option Int → Hp → Prop} (h : te σ H fun x H1 => intQ x H1 Q) : tPart te σ H Q := h
theorem w_exint {i : Int} {Q : Option Int → Hp → Prop} (h : Q (some i) H) : intQ (.int i) H Q := ⟨i, rfl, h⟩
def tyQ (K : PySem.W.Frag) (T : String) (x : V) (H : Hp) (P : Prop) : Prop := tyV K T x H ∧ P
theorem w_BM {T : String} {r : V → List V → Hp → VK → Prop} {to : TE} {t : TA} (h : to σ H fun x H1 => tyQ K T x H1 (t σ H1 fun xs H2 => r x xs H2 Q)) : tBM K T r to t σ H Q := h
theorem w_BM0 {T : String} {r : V → List V → Hp → VK → Prop} {to : TE} (h : to σ H fun x H1 => tyQ K T x H1 (r x [] H1 Q)) : tBM0 K T r to σ H Q := h
theorem w_tyL {a : Addr} {xs : List V} {P : Prop} (h1 : H a = some (.lst xs)) (h : P) : tyQ K "list" (.ref a) H P := ⟨.inl ⟨rfl, _, SqL.of h1⟩, h⟩
def strQ (x : V) (P : Prop) : Prop := (∃ a, x = .str a) ∧ P
theorem w_M0 {r : V → List V → Hp → VK → Prop} (h : ta σ H fun x H1 => strQ x (r x [] H1 Q)) : tM0 r ta σ H Q := h
theorem w_M1 {r : V → List V → Hp → VK → Prop} (h : ta σ H fun x H1 => strQ x (te σ H1 fun y H2 => r x [y] H2 Q)) : tM1 r ta te σ H Q := h
theorem w_exstr {l : List Nat} {P : Prop} (h : P) : strQ (vS l) P := ⟨⟨_, rfl⟩, h⟩
def truQ (K : PySem.W.Frag) (x : V) (H : Hp) (Q : Bool → Hp → Prop) : Prop := ∃ k, TruV K x H k ∧ Q k H
theorem w_tru {Q : Bool → Hp → Prop} (h : ta σ H fun x H' => truQ K x H' Q) : tTru K ta σ H Q := h
theorem w_truL {a : Addr} {xs : List V} {Q : Bool → Hp → Prop} (h1 : SqL K H a xs) (h : Q (!xs.isEmpty) H) : truQ K (.ref a) H Q := ⟨_, .inl ⟨xs, h1, rfl⟩, h⟩
theorem w_truT {a : Addr} {xs : List V} {Q : Bool → Hp → Prop} (h1 : SqT K H a xs) (h : Q (!xs.isEmpty) H) : truQ K (.ref a) H Q := ⟨_, .inr (.inl ⟨xs, h1, rfl⟩), h⟩
theorem w_truS {l : List Nat} {Q : Bool → Hp → Prop} (h1 : l.length ≤ 16777216) (h : Q (!l.isEmpty) H) : truQ K (vS l) H Q := by
  refine ⟨_, ⟨by rw [S_len, line_eq]; exact h1, rfl⟩, ?_⟩
  rw [S_len]
  cases l with
  | nil => exact h
  | cons a r =>
    have e : (((a :: r).length : Int) != 0) = true := by
      simp
      omega
    rw [e]
    exact h
theorem w_rI0 {f : Int → Int → V} {i j : Int} (h : Q (f i j) H) : rI0 f (.int i) (.int j) H Q := ⟨i, j, rfl, rfl, h⟩
theorem w_rI {C : Int → Int → Prop} {f : Int → Int → V} {i j : Int} (hc : C i j) (h : Q (f i j) H) : rI C f (.int i) (.int j) H Q := ⟨i, j, rfl, rfl, hc, h⟩
theorem w_rU {f : Int → V} {i : Int} (h : Q (f i) H) : rU f (.int i) H Q := ⟨i, rfl, h⟩
theorem w_eqI {i j : Int} (h : Q (.bl (decide (i = j))) H) : zEqI (.int i) (.int j) H Q := ⟨i, j, rfl, rfl, h⟩
theorem w_neI {i j : Int} (h : Q (.bl (!decide (i = j))) H) : zNeI (.int i) (.int j) H Q := ⟨i, j, rfl, rfl, h⟩
theorem w_eqS {a b : List Nat} (h : Q (.bl (decide (a = b))) H) : zEqS (vS a) (vS b) H Q := ⟨a, b, rfl, rfl, h⟩
theorem w_neS {a b : List Nat} (h : Q (.bl (!decide (a = b))) H) : zNeS (vS a) (vS b) H Q := ⟨a, b, rfl, rfl, h⟩
theorem w_addS {a b : List Nat} (hc : a.length + b.length ≤ 16777216) (h : Q (vS (a ++ b)) H) : zAddS (vS a) (vS b) H Q := ⟨a, b, rfl, rfl, hc, h⟩
theorem w_mulS {a : List Nat} {n : Int} (h1 : -100000000 ≤ n) (h2 : n ≤ 100000000) (hc : a.length * n.toNat ≤ 16777216) (h : Q (vS (rep n a)) H) : zMulS (vS a) (.int n) H Q := ⟨a, n, rfl, rfl, h1, h2, hc, h⟩
theorem w_lenS {l : List Nat} (hc : l.length ≤ 16777216) (h : Q (.int l.length) H) : zLenS [vS l] H Q := ⟨l, rfl, hc, h⟩
theorem w_lenL {a : Addr} {xs : List V} (h1 : SqL K H a xs) (h : Q (.int xs.length) H) : zLenQ K [.ref a] H Q := ⟨a, xs, rfl, .inl h1, h⟩
theorem w_lenT {a : Addr} {xs : List V} (h1 : SqT K H a xs) (h : Q (.int xs.length) H) : zLenQ K [.ref a] H Q := ⟨a, xs, rfl, .inr h1, h⟩
theorem w_int {i : Int} (h : Q (.int i) H) : zInt1 [.int i] H Q := ⟨i, rfl, h⟩
theorem w_abs {i : Int} (h : Q (.int (i.natAbs : Int)) H) : zAbs [.int i] H Q := ⟨i, rfl, h⟩
theorem w_min {i j : Int} (h : Q (.int (min i j)) H) : zMin2 [.int i, .int j] H Q := ⟨i, j, rfl, h⟩
theorem w_ixS {l : List Nat} {i : Int} {c : Nat} (h1 : l.length ≤ 16777216) (h2 : atI l i = some c) (h : Q (vS [c]) H) : zIxS (vS l) (.int i) H Q := ⟨l, i, c, rfl, rfl, h1, h2, h⟩
theorem w_ixL {a : Addr} {xs : List V} {i : Int} (h1 : SqL K H a xs) (h2 : atI xs i = some v) (h : Q v H) : rIxL K (.ref a) (.int i) H Q := ⟨a, xs, i, v, rfl, rfl, h1, h2, h⟩
theorem w_ixT {a : Addr} {xs : List V} {i : Int} (h1 : SqT K H a xs) (h2 : atI xs i = some v) (h : Q v H) : rIxT K (.ref a) (.int i) H Q := ⟨a, xs, i, v, rfl, rfl, h1, h2, h⟩
theorem w_slS {l : List Nat} {lo hi : Option Int} (h1 : l.length ≤ 16777216) (h : Q (vS (cutL l lo hi)) H) : zSlS (vS l) lo hi H Q := ⟨l, rfl, h1, h⟩
theorem w_slL {a : Addr} {xs : List V} {lo hi : Option Int} (h1 : SqL K H a xs) (h : ∀ p, H p = none → Q (.ref p) (upd H p (.lst (cutL xs lo hi)))) : rSlL K (.ref a) lo hi H Q := ⟨a, xs, rfl, h1, h⟩
theorem w_append {l : Addr} {xs : List V} (h1 : H l = some (.lst xs)) (h2 : xs.length < 16777216) (h : Q .non (upd H l (.lst (xs ++ [v])))) : rAppend (.ref l) [v] H Q := ⟨l, xs, v, rfl, rfl, h1, by rw [line_eq]; exact h2, h⟩
theorem w_pop {l : Addr} {xs : List V} (h1 : H l = some (.lst (xs ++ [v]))) (h : Q v (upd H l (.lst xs))) : rPop (.ref l) [] H Q := ⟨l, xs ++ [v], v, rfl, rfl, h1, by simp, by rw [List.dropLast_concat]; exact h⟩
theorem w_setL {p : Addr} {xs : List V} {k : Int} {j : Nat} {Q : Hp → Prop} (h1 : H p = some (.lst xs)) (h2 : ixN xs.length k = some j) (h : Q (upd H p (.lst (xs.set j v)))) : rSetL (.ref p) (.int k) v H Q := ⟨p, xs, k, j, rfl, rfl, h1, h2, h⟩
theorem w_tupOfL {a : Addr} {xs : List V} (h1 : SqL K H a xs) (h : ∀ l, H l = none → Q (.ref l) (upd H l (.tup xs))) : ∃ p ys, [V.ref a] = [.ref p] ∧ ((SqL K H p ys ∧ ∀ l, H l = none → Q (.ref l) (upd H l (.tup ys))) ∨ (SqT K H p ys ∧ Q (.ref p) H)) := ⟨a, xs, rfl, .inl ⟨h1, h⟩⟩
theorem w_join0 {p : Addr} {ys : List (List Nat)} (h1 : SqL K H p (ys.map vS)) (h2 : ys.flatten.length ≤ 16777216) (h : Q (vS ys.flatten) H) : zJoin0 K (vS []) [.ref p] H Q := ⟨p, ys, rfl, rfl, .inl h1, h2, h⟩
theorem w_ninL {a : List Nat} {p : Addr} {bs : List (List Nat)} (h1 : SqL K H p (bs.map vS)) (h : Q (.bl (!decide (a ∈ bs))) H) : zNinL K (vS a) (.ref p) H Q := ⟨a, p, bs, rfl, rfl, .inl h1, h⟩
theorem w_sortedT {p : Addr} {xs : List (List Nat)} (h1 : SqL K H p (xs.map vS)) (h2 : xs.length < 64) (h : ∀ (ys : List (List Nat)) (p : Addr), ys.Perm xs → sortedS (ys.map S) = true → H p = none → Q (.ref p) (upd H p (.lst (ys.map vS)))) : zSortedS K [.ref p] H Q := ⟨p, xs, rfl, h1, h2, h⟩
theorem st_is {t : TS} {σ' : L2.St} (e : σ' = σ) (h : t D σ H) : t D σ' H := e ▸ h
end
/-! ## heaps -/
section
variable {H H' : Hp} {a b p l : Addr} {o u : HO} {xs : List V} {K : PySem.W.Frag}
theorem get_ne (h : b ≠ a) (e : H b = some u) : upd H a o b = some u := by rw [upd_ne h]; exact e
theorem none_ne (h : b ≠ a) (e : H b = none) : upd H a o b = none := by rw [upd_ne h]; exact e
theorem none_of_upd (h : upd H a o b = none) : H b = none ∧ b ≠ a := by
  by_cases e : b = a
  · subst e
    rw [upd_same] at h
    cases h
  · rw [upd_ne e] at h
    exact ⟨h, e⟩
theorem same_new (h : H p = none) : Same H (upd H p o) := fun b x e => by
  rw [upd_ne (ne_of_none e h)]
  exact e
/-- tuples (and what is locked) stay: every step of a run keeps them -/
def Tx (H H' : Hp) : Prop := ∀ b o, ((∃ xs, o = .tup xs) ∨ ∃ ob u, o = .frz ob u) → H b = some o → H' b = some o
theorem Tx.refl (H : Hp) : Tx H H := fun _ _ _ h => h
theorem Tx.trans {H1 H2 H3 : Hp} (x : Tx H1 H2) (y : Tx H2 H3) : Tx H1 H3 := fun b o k h => y b o k (x b o k h)
theorem Tx.of_same (s : Same H H') : Tx H H' := fun b o _ h => s b o h
theorem Tx.new {H0 : Hp} (x : Tx H0 H) (h : H p = none) : Tx H0 (upd H p o) := fun b u k e => by
  have e2 := x b u k e
  rw [upd_ne (ne_of_none e2 h)]
  exact e2
theorem Tx.lst {H0 : Hp} (x : Tx H0 H) (h : H l = some (.lst xs)) : Tx H0 (upd H l o) := fun b u k e => by
  have e2 := x b u k e
  have n : b ≠ l := by
    refine ne_of e2 h ?_
    rcases k with ⟨_, rfl⟩ | ⟨_, _, rfl⟩ <;> intro z <;> cases z
  rw [upd_ne n]
  exact e2
theorem Tx.sqT (x : Tx H H') (h : SqT K H a xs) : SqT K H' a xs := by
  rcases h with (h | ⟨o, h⟩) | h
  · exact .inl (.inl (x _ _ (.inl ⟨_, rfl⟩) h))
  · exact .inl (.inr ⟨o, x _ _ (.inr ⟨_, _, rfl⟩) h⟩)
  · exact .inr h
/-- all but the lists at p and g stays -/
def Kp (p g : Addr) (H H' : Hp) : Prop := ∀ b o, b ≠ p → b ≠ g → H b = some o → H' b = some o
theorem Kp.refl (p g : Addr) (H : Hp) : Kp p g H H := fun _ _ _ _ h => h
theorem Kp.trans {p g : Addr} {H1 H2 H3 : Hp} (x : Kp p g H1 H2) (y : Kp p g H2 H3) : Kp p g H1 H3 := fun b o k1 k2 h => y b o k1 k2 (x b o k1 k2 h)
theorem Kp.of_same {p g : Addr} (s : Same H H') : Kp p g H H' := fun b o _ _ h => s b o h
end

/-! ## a def that may be called -/
structure Cal (P : Program) (w : World) (K : PySem.W.Frag) (mg : Str → Option Value) (base : Heap) (k : Nat) (x : Str) (sp : Sp) : Prop where
  ex : ∃ (f : Addr) (fd : FuncData) (ps : List Str), FnOk P w K mg base CX0 k f fd ps sp ∧ mg x = some (.ref f) ∧ PySem.W.keepIn K (.ref f) = true ∧ Binds K fd ps []
theorem pe_c {X : Cx} {k j : Nat} {x : Str} {sp : Sp} {p pos : Pos} {e : Expr} {es : List Expr} {t : TA} (c : Cal X.prog X.w X.K X.mg X.base k x sp) (hr : Room j X.A) (hk : k ≤ j) (hg : Gl X x) (ha : PA X (e :: es) t)
    (hdb : (x == ("__debug__" : Str)) = false := by decide) (he : starEach (e :: es) X.env = (false, eval e X.env) :: starEach es X.env := by rfl) (hpl : (backTo pos (starEach es X.env)).any (·.1) = false := by rfl) :
    PE X (.Call (.Name x p) (e :: es) [] pos) (tCall sp [] E0 t) := by
  obtain ⟨f, fd, ps, F, hm, kp, b⟩ := c.ex
  exact pe_call F (hr.mono hk) hg hm kp b .nil pass0 ha hdb he hpl
/-- where the def stands -/
structure At (K : PySem.W.Frag) (mg : Str → Option Value) (x : Str) (st : Stmt) : Prop where
  ex : ∃ (f : Addr) (fd : FuncData), Fun K x x st f fd ∧ mg x = some (.ref f) ∧ ∀ ps : List Str, (∀ (kV doc pm : Value) (an : Option Addr) (cdv ct : Value) (us : List Value), us.length = ps.length → bindArgs (PySem.W.fnOf x x (defArgs st) (defBody st) (defScope st) .none kV doc pm an cdv ct) ⟨us, []⟩ = pure (ps.zip us)) → Binds K fd ps []
theorem At.cal {P : Program} {w : World} {K : PySem.W.Frag} {mg : Str → Option Value} {base : Heap} {x : Str} {st : Stmt} {N ps : List Str} {k : Nat} {sp : Sp} (F : At K mg x st) (S : FnScope N ps (defScope st)) (len : ∀ vs H Q E, sp vs H Q E → vs.length = ps.length)
    (hb : ∀ (kV doc pm : Value) (an : Option Addr) (cdv ct : Value) (us : List Value), us.length = ps.length → bindArgs (PySem.W.fnOf x x (defArgs st) (defBody st) (defScope st) .none kV doc pm an cdv ct) ⟨us, []⟩ = pure (ps.zip us))
    (hbody : ∀ (f : Addr) (cdv : Value) (A : Around) (outer : List Env) (s : Shared) (H : Hp) (vs : List V) (Q : VK) (E : XK), Room k (A.deeper (envOfC x (defScope st) s.heap.objs.size f cdv)) → sp vs H Q E →
      ∃ t, PSs (cxOf CX0 P w K mg base N x (defScope st) f cdv A outer s H E).nox (defBody st) t ∧ t { nx := fun _ H' => Q .non H', rt := Q } (start N vs) H) : Cal P w K mg base (k + 1) x sp := by
  obtain ⟨f, fd, F, hm, b⟩ := F.ex
  exact ⟨f, fd, ps, F.ok S len (hbody f), hm, F.kp, b ps hb⟩
section
variable {X : Cx}
def zTupL (K : PySem.W.Frag) : List V → Hp → VK → Prop := fun vs H Q => ∃ p ys, vs = [.ref p] ∧ SqL K H p ys ∧ ∀ l, H l = none → Q (.ref l) (upd H l (.tup ys))
theorem call_tupL : CallR X (.type "tuple") (zTupL X.K) := by
  intro pins s σ H xs us Q I r h
  obtain ⟨p, ys, rfl, hs, q⟩ := h
  exact call_tuple_of pins s σ H _ us Q I r ⟨p, ys, rfl, .inl ⟨hs, q⟩⟩
end
theorem w_tupL {H : Hp} {Q : VK} {K : PySem.W.Frag} {a : Addr} {xs : List V} (h1 : SqL K H a xs) (h : ∀ l, H l = none → Q (.ref l) (upd H l (.tup xs))) : zTupL K [.ref a] H Q := ⟨a, xs, rfl, h1, h⟩
abbrev kOf {K : PySem.W.Frag} {h : Heap} (_ : K.In h) : PySem.W.Frag := K
theorem at_mk {K : PySem.W.Frag} {h : Heap} {mg : Str → Option Value} {x : Str} {st : Stmt} {f : Addr} {oc : Value} {od an : Option Addr} {sl : Array (Option Value)} {kV dc pm cd ct : Value} (X : K.In h) (G : h.Ns mainGlobals mg)
    (a : PySem.W.nsIn K mainGlobals x = some (some (.ref f))) (l : K.lookup f = some ⟨oc, od, .func (PySem.W.fnOf x x (defArgs st) (defBody st) (defScope st) .none kV dc pm an cd ct), sl⟩) (c : PySem.W.codeIn K cd x = true) (k : PySem.W.keepIn K (.ref f) = true) : At K mg x st :=
  ⟨f, _, fun_mk l c k, PySem.W.mg_of X G a, fun _ h => (fun_mk l c k).binds h⟩
theorem fin_of {lw : PySem.W.OpenLaw} {w : World} {K : PySem.W.Frag} {h : Heap} {mg : Str → Option Value} {st : Stmt} {fa f : Addr} {oc : Value} {od an : Option Addr} {sl : Array (Option Value)} {kV dc pm cd ct : Value} {n : Nat} {sp : Sp} (X : K.In h) (G : h.Ns mainGlobals mg) (hfa : mg "law" = some (.ref fa))
    (a : PySem.W.nsIn K mainGlobals "law" = some (some (.ref f))) (l : K.lookup f = some ⟨oc, od, .func (PySem.W.fnOf "law" "law" (defArgs st) (defBody st) (defScope st) .none kV dc pm an cd ct), sl⟩) (c : PySem.W.codeIn K cd "law" = true) (k : PySem.W.keepIn K (.ref f) = true)
    (hb : ∀ (s : Shared) (v : Value), BindsTo s (PySem.W.fnOf "law" "law" (defArgs st) (defBody st) (defScope st) .none kV dc pm an cd ct) ⟨[v], []⟩ [("script", v)]) (hok : ∀ (f : Addr) (fd : FuncData), Fun K "law" "law" st f fd → ∀ base : Heap, FnOk lw.prog w K mg base CX0 n f fd ["script"] sp) :
    ∃ fd : FuncData, (∀ (s : Shared) (v : Value), BindsTo s fd ⟨[v], []⟩ [("script", v)]) ∧ ∀ base : Heap, K.In base → base.Ns mainGlobals mg → FnOk lw.prog w K mg base CX0 n fa fd ["script"] sp := by
  have e := hfa.symm.trans (PySem.W.mg_of X G a)
  cases e
  exact ⟨_, hb, fun base _ _ => hok _ _ (fun_mk l c k) base⟩
/-- the pool of draws: [int, the list of great numbers] -/
structure Pool (p g : Addr) (H : Hp) : Prop where
  ne : p ≠ g
  ex : ∃ (x : Int) (ns : List Int), H p = some (.lst [.int x, .ref g]) ∧ H g = some (.lst (ns.map V.int)) ∧ ns.length ≤ 1000
theorem Pool.new {p g c : Addr} {H : Hp} {o : HO} (h : Pool p g H) (hc : H c = none) : Pool p g (upd H c o) := by
  obtain ⟨ne, x, ns, h1, h2, h3⟩ := h
  exact ⟨ne, x, ns, get_ne (ne_of_none h1 hc) h1, get_ne (ne_of_none h2 hc) h2, h3⟩
theorem Pool.same {p g : Addr} {H H' : Hp} (h : Pool p g H) (s : Same H H') : Pool p g H' := by
  obtain ⟨ne, x, ns, h1, h2, h3⟩ := h
  exact ⟨ne, x, ns, s _ _ h1, s _ _ h2, h3⟩
theorem Pool.lst {p g c : Addr} {H : Hp} {o : HO} (h : Pool p g H) (h1 : c ≠ p) (h2 : c ≠ g) : Pool p g (upd H c o) := by
  obtain ⟨ne, x, ns, e1, e2, h3⟩ := h
  exact ⟨ne, x, ns, get_ne h1.symm e1, get_ne h2.symm e2, h3⟩
theorem Pool.ne1 {p g c : Addr} {H : Hp} (h : Pool p g H) (hc : H c = none) : c ≠ p := by
  obtain ⟨ne, x, ns, e1, e2, h3⟩ := h
  exact (ne_of_none e1 hc).symm
theorem Pool.ne2 {p g c : Addr} {H : Hp} (h : Pool p g H) (hc : H c = none) : c ≠ g := by
  obtain ⟨ne, x, ns, e1, e2, h3⟩ := h
  exact (ne_of_none e2 hc).symm
theorem Kp.tx {p g : Addr} {H H' : Hp} (k : Kp p g H H') (h : Pool p g H) : Tx H H' := fun b o t e => by
  obtain ⟨ne, x, ns, e1, e2, h3⟩ := h
  refine k b o ?_ ?_ e
  · refine ne_of e e1 ?_
    rcases t with ⟨_, rfl⟩ | ⟨_, _, rfl⟩ <;> intro z <;> cases z
  · refine ne_of e e2 ?_
    rcases t with ⟨_, rfl⟩ | ⟨_, _, rfl⟩ <;> intro z <;> cases z

/-! ## data without a heap -/
inductive D where
  | non | bl (b : Bool) | int (i : Int) | str (l : List Nat) | tup (ds : List D)
mutual
def Rep (K : PySem.W.Frag) (H : Hp) : D → V → Prop
  | .non, v => v = .non
  | .bl b, v => v = .bl b
  | .int i, v => v = .int i
  | .str l, v => v = vS l
  | .tup ds, v => ∃ a xs, v = .ref a ∧ SqT K H a xs ∧ Reps K H ds xs
def Reps (K : PySem.W.Frag) (H : Hp) : List D → List V → Prop
  | [], xs => xs = []
  | d :: ds, xs => ∃ x r, xs = x :: r ∧ Rep K H d x ∧ Reps K H ds r
end
mutual
def D.size : D → Nat
  | .tup ds => 1 + D.sizes ds
  | _ => 1
def D.sizes : List D → Nat
  | [] => 0
  | d :: ds => d.size + D.sizes ds
end
section
variable {K : PySem.W.Frag} {H H' : Hp}
mutual
theorem Rep.tx (x : Tx H H') : ∀ (d : D) (v : V), Rep K H d v → Rep K H' d v
  | .non, v, h => by unfold Rep at h ⊢; exact h
  | .bl b, v, h => by unfold Rep at h ⊢; exact h
  | .int i, v, h => by unfold Rep at h ⊢; exact h
  | .str l, v, h => by unfold Rep at h ⊢; exact h
  | .tup ds, v, h => by
    unfold Rep at h ⊢
    obtain ⟨a, xs, e, h1, h2⟩ := h
    exact ⟨a, xs, e, x.sqT h1, Reps.tx x ds xs h2⟩
theorem Reps.tx (x : Tx H H') : ∀ (ds : List D) (xs : List V), Reps K H ds xs → Reps K H' ds xs
  | [], xs, h => by unfold Reps at h ⊢; exact h
  | d :: ds, xs, h => by
    unfold Reps at h ⊢
    obtain ⟨y, r, e, h1, h2⟩ := h
    exact ⟨y, r, e, Rep.tx x d y h1, Reps.tx x ds r h2⟩
end
theorem Reps.len : ∀ {ds : List D} {xs : List V}, Reps K H ds xs → xs.length = ds.length
  | [], xs, h => by unfold Reps at h; rw [h]; rfl
  | d :: ds, xs, h => by
    unfold Reps at h
    obtain ⟨y, r, rfl, _, h2⟩ := h
    rw [List.length_cons, List.length_cons, Reps.len h2]
theorem Reps.get : ∀ {ds : List D} {xs : List V} {i : Nat} {d : D}, Reps K H ds xs → ds[i]? = some d → ∃ x, xs[i]? = some x ∧ Rep K H d x
  | [], _, _, _, _, e => by simp at e
  | d :: ds, xs, 0, d', h, e => by
    unfold Reps at h
    obtain ⟨y, r, rfl, h1, _⟩ := h
    have e' : d = d' := Option.some.inj e
    subst e'
    exact ⟨y, rfl, h1⟩
  | d :: ds, xs, i + 1, d', h, e => by
    unfold Reps at h
    obtain ⟨y, r, rfl, _, h2⟩ := h
    exact Reps.get (i := i) h2 e
theorem Reps.snoc : ∀ {ds : List D} {xs : List V} {d : D} {x : V}, Reps K H ds xs → Rep K H d x → Reps K H (ds ++ [d]) (xs ++ [x])
  | [], xs, d, x, h, hx => by
    unfold Reps at h
    subst h
    show Reps K H [d] [x]
    unfold Reps
    exact ⟨x, [], rfl, hx, by unfold Reps; rfl⟩
  | d0 :: ds, xs, d, x, h, hx => by
    unfold Reps at h
    obtain ⟨y, r, rfl, h1, h2⟩ := h
    show Reps K H (d0 :: (ds ++ [d])) (y :: (r ++ [x]))
    unfold Reps
    exact ⟨y, r ++ [x], rfl, h1, Reps.snoc h2 hx⟩
theorem Reps.drop : ∀ {ds : List D} {xs : List V} (n : Nat), Reps K H ds xs → Reps K H (ds.drop n) (xs.drop n)
  | ds, xs, 0, h => h
  | [], xs, n + 1, h => by
    unfold Reps at h
    subst h
    show Reps K H [] []
    unfold Reps
    rfl
  | d :: ds, xs, n + 1, h => by
    unfold Reps at h
    obtain ⟨y, r, rfl, h1, h2⟩ := h
    exact Reps.drop n h2
theorem Reps.take : ∀ {ds : List D} {xs : List V} (n : Nat), Reps K H ds xs → Reps K H (ds.take n) (xs.take n)
  | ds, xs, 0, h => by
    show Reps K H [] []
    unfold Reps
    rfl
  | [], xs, n + 1, h => by
    unfold Reps at h
    subst h
    show Reps K H [] []
    unfold Reps
    rfl
  | d :: ds, xs, n + 1, h => by
    unfold Reps at h
    obtain ⟨y, r, rfl, h1, h2⟩ := h
    show Reps K H (d :: ds.take n) (y :: r.take n)
    unfold Reps
    exact ⟨y, _, rfl, h1, Reps.take n h2⟩
theorem Reps.nil : Reps K H [] [] := by unfold Reps; rfl
theorem Reps.cons {d : D} {ds : List D} {x : V} {xs : List V} (h1 : Rep K H d x) (h2 : Reps K H ds xs) : Reps K H (d :: ds) (x :: xs) := by
  unfold Reps
  exact ⟨x, xs, rfl, h1, h2⟩
theorem Rep.str {l : List Nat} : Rep K H (.str l) (vS l) := by unfold Rep; rfl
theorem Rep.int {i : Int} : Rep K H (.int i) (.int i) := by unfold Rep; rfl
theorem Rep.bl {b : Bool} : Rep K H (.bl b) (.bl b) := by unfold Rep; rfl
theorem Rep.non : Rep K H .non .non := by unfold Rep; rfl
theorem Rep.tup {a : Addr} {ds : List D} {xs : List V} (h : SqT K H a xs) (h2 : Reps K H ds xs) : Rep K H (.tup ds) (.ref a) := by
  unfold Rep
  exact ⟨a, xs, rfl, h, h2⟩
theorem rep_str {l : List Nat} {v : V} (h : Rep K H (.str l) v) : v = vS l := by unfold Rep at h; exact h
theorem rep_int {l : Int} {v : V} (h : Rep K H (.int l) v) : v = .int l := by unfold Rep at h; exact h
theorem rep_tup {ds : List D} {v : V} (h : Rep K H (.tup ds) v) : ∃ a xs, v = .ref a ∧ SqT K H a xs ∧ Reps K H ds xs := by unfold Rep at h; exact h
theorem reps_cons {d : D} {ds : List D} {xs : List V} (h : Reps K H (d :: ds) xs) : ∃ x r, xs = x :: r ∧ Rep K H d x ∧ Reps K H ds r := by unfold Reps at h; exact h
theorem reps_nil {xs : List V} (h : Reps K H [] xs) : xs = [] := by unfold Reps at h; exact h
/-! ## isinstance -/
def tyN : D → String
  | .non => "NoneType" | .bl _ => "bool" | .int _ => "int" | .str _ => "str" | .tup _ => "tuple"
theorem tyX_T {a : Addr} {xs : List V} (h : SqT K H a xs) : TyX K H (.ref a) (.type "tuple") := by
  rcases h with (h | ⟨o, h⟩) | h
  · exact .base (.tup h)
  · exact .fTuple h
  · obtain ⟨o, its, n, e, c, _⟩ := h
    exact .kTuple e c
theorem rep_ty {d : D} {v : V} (h : Rep K H d v) : TyX K H v (.type (tyN d)) := by
  cases d with
  | non => unfold Rep at h; subst h; exact .base .non
  | bl b => unfold Rep at h; subst h; exact .base (.bl b)
  | int i => unfold Rep at h; subst h; exact .base (.int i)
  | str l => unfold Rep at h; subst h; exact .base (.str _)
  | tup ds =>
    obtain ⟨a, xs, rfl, h1, _⟩ := rep_tup h
    exact tyX_T h1
theorem w_isi {x : V} {n t : String} {b : Bool} {Q : VK} (ty : TyX K H x (.type t)) (h : kitB t n = some b) (q : Q (.bl b) H) : rIsi K [x, .ty n] H Q := ⟨x, .ty n, .type t, .type n, b, rfl, .ty n, ty, kit_ty h, q⟩
end
theorem w_eqR {x y : V} {H : Hp} {Q : VK} (h1 : scal x y = true) (h : Q (.bl (decide (x = y))) H) : rEq x y H Q := ⟨h1, h⟩
theorem w_ixAT {K : PySem.W.Frag} {H : Hp} {Q : VK} {a : Addr} {xs : List V} {i : Int} {v : V} (h1 : SqT K H a xs) (h2 : atI xs i = some v) (h : Q v H) : rIx K (.ref a) (.int i) H Q := .inr (.inl ⟨a, xs, i, v, rfl, rfl, h1, h2, h⟩)
def isNQ (x y : V) (H : Hp) (Q : VK) : Prop := y = .non ∧ Q (.bl (decide (x = .non))) H
def notNQ (x y : V) (H : Hp) (Q : VK) : Prop := y = .non ∧ Q (.bl (!decide (x = .non))) H
theorem op_isN2 {X : Cx} : OpR X (compareOp .Is) isNQ := op_isN
theorem op_notN2 {X : Cx} : OpR X (compareOp .IsNot) notNQ := op_notN
theorem w_isN {x : V} {H : Hp} {Q : VK} (h : Q (.bl (decide (x = .non))) H) : isNQ x .non H Q := ⟨rfl, h⟩
theorem w_notN {x : V} {H : Hp} {Q : VK} (h : Q (.bl (!decide (x = .non))) H) : notNQ x .non H Q := ⟨rfl, h⟩
theorem ite_nt {A B : Prop} (h : B) : if (!true) = true then A else B := h
theorem ite_nf {A B : Prop} (h : A) : if (!false) = true then A else B := h
theorem Same.new' {H H' : Hp} {p : Addr} {o : HO} (s : Same H H') (h : H' p = none) : Same H (upd H' p o) := s.trans (same_new h)
theorem Same.mut {H H' : Hp} {p : Addr} {o : HO} (s : Same H H') (h : H p = none) : Same H (upd H' p o) := fun b u e => get_ne (ne_of_none e h) (s b u e)
def tCut (t u : TS) : TS := fun D σ H => ∃ Mid : L2.St → Hp → Prop, t { D with nx := Mid } σ H ∧ ∀ σ' H', Mid σ' H' → u D σ' H'
theorem pss_cut {X : Cx} {st : Stmt} {rest : List Stmt} {t u : TS} (h1 : PS X st t) (h2 : PSs X rest u) : PSs X (st :: rest) (tCut t u) := by
  refine ⟨fun pins s σ H D I h => ?_⟩
  obtain ⟨Mid, hm, hu⟩ := h
  refine wpAny_execs_cons (thn (h1.run pins s σ H { D with nx := Mid } I hm) fun f s1 q => ?_)
  cases f with
  | next =>
    obtain ⟨σ', H', I', q⟩ := q
    exact h2.run pins s1 σ' H' D I' (hu σ' H' q)
  | ret v => exact q
  | brk => exact q
  | cont => exact q
theorem w_cut {t u : TS} {D : Ends} {σ : L2.St} {H : Hp} (Mid : L2.St → Hp → Prop) (h1 : t { D with nx := Mid } σ H) (h2 : ∀ σ' H', Mid σ' H' → u D σ' H') : tCut t u D σ H := ⟨Mid, h1, h2⟩
theorem cut_whole {xs : List V} {lo hi : Option Int} (h : HT.sIx xs.length 0 lo = 0 ∧ HT.sIx xs.length xs.length hi = xs.length) : cutL xs lo hi = xs := by
  unfold cutL
  rw [h.1, h.2, List.drop_zero, Nat.sub_zero, List.take_length]
theorem w_slA {K : PySem.W.Frag} {H : Hp} {Q : VK} {a : Addr} {xs : List V} {lo hi : Option Int} (h1 : SqT K H a xs) (h : ∀ p H', Same H H' → SqT K H' p (cutL xs lo hi) → Q (.ref p) H') : rSlA K (.ref a) lo hi H Q := by
  refine ⟨a, xs, rfl, h1, fun hw => ?_, fun hw p hp => ?_⟩
  · exact h a H (Same.refl _) (by rw [cut_whole hw]; exact h1)
  · exact h p _ (same_new hp) (SqT.of upd_same)
/-! ## for -/
section
variable {K : PySem.W.Frag} {ta : TA} {tl : TE} {g : TG} {tb : TS} {D : Ends} {σ : L2.St} {H : Hp}
abbrev Turns (J : It) (g : TG) (tb : TS) (D : Ends) (σ : L2.St) (H : Hp) : Prop := ∃ W : Nat → Nat → L2.St → Hp → Prop, (∃ m, W 0 m σ H) ∧ ∀ i m σ H, W i m σ H →
  (J.stop i H ∧ D.nx σ H) ∨ (J.go i H ∧ ∃ N : L2.St → Hp → Prop, (∀ σ' H', N σ' H' → ∃ m', m' < m ∧ W (i + 1) m' σ' H') ∧ ∀ x H', J.yld i H x H' → g x σ H' fun σ2 H2 => tb { D with nx := N, ct := N, bk := D.nx } σ2 H2)
def rng1Q (g : TG) (tb : TS) (D : Ends) (σ : L2.St) (vs : List V) (H : Hp) : Prop := ∃ j : Int, vs = [.int j] ∧ -(2 ^ 62) ≤ j ∧ j < 2 ^ 62 ∧ Turns (Itr 0 j.toNat) g tb D σ H
theorem w_for1 (h : ta σ H fun vs H1 => rng1Q g tb D σ vs H1) : tFor (iRng1 ta) g tb D σ H := h
theorem w_rng1 {j : Int} (h1 : -1000000000 ≤ j) (h2 : j ≤ 1000000000) (Pv : Nat → L2.St → Hp → Prop) (p0 : Pv 0 σ H)
    (ps : ∀ (i : Nat) (σ : L2.St) (H : Hp), (i : Int) < j → Pv i σ H → g (.int (i : Int)) σ H fun σ2 H2 => tb { D with nx := Pv (i + 1), ct := Pv (i + 1), bk := D.nx } σ2 H2) (pd : ∀ σ H, Pv j.toNat σ H → D.nx σ H) : rng1Q g tb D σ [.int j] H := by
  refine ⟨j, rfl, by omega, by omega, for_range (lo := 0) (n := j.toNat) Pv p0 (fun i σ H hi p => ?_) pd⟩
  have e0 : (0 : Int) + (i : Int) = (i : Int) := Int.zero_add _
  rw [e0]
  exact ps i σ H (by omega) p
def rng2Q (g : TG) (tb : TS) (D : Ends) (σ : L2.St) (vs : List V) (H : Hp) : Prop := ∃ i j : Int, vs = [.int i, .int j] ∧ (-(2 ^ 62) ≤ i ∧ i < 2 ^ 62 ∧ -(2 ^ 62) ≤ j ∧ j < 2 ^ 62) ∧ Turns (Itr i (j - i).toNat) g tb D σ H
theorem w_for2 (h : ta σ H fun vs H1 => rng2Q g tb D σ vs H1) : tFor (iRng2 ta) g tb D σ H := h
theorem w_rng2 {lo hi : Int} (h0 : -1000000000 ≤ lo ∧ lo ≤ 1000000000) (h1 : -1000000000 ≤ hi ∧ hi ≤ 1000000000) (Pv : Nat → L2.St → Hp → Prop) (p0 : Pv 0 σ H)
    (ps : ∀ (i : Nat) (σ : L2.St) (H : Hp), lo + (i : Int) < hi → Pv i σ H → g (.int (lo + (i : Int))) σ H fun σ2 H2 => tb { D with nx := Pv (i + 1), ct := Pv (i + 1), bk := D.nx } σ2 H2) (pd : ∀ σ H, Pv (hi - lo).toNat σ H → D.nx σ H) : rng2Q g tb D σ [.int lo, .int hi] H :=
  ⟨lo, hi, rfl, by omega, for_range (lo := lo) (n := (hi - lo).toNat) Pv p0 (fun i σ H hi p => ps i σ H (by omega) p) pd⟩
def lstQ (K : PySem.W.Frag) (g : TG) (tb : TS) (D : Ends) (σ : L2.St) (x : V) (H : Hp) : Prop := ∃ a, x = .ref a ∧ (∃ xs, SqL K H a xs) ∧ Turns (Itl K a) g tb D σ H
theorem w_forL (h : tl σ H fun x H1 => lstQ K g tb D σ x H1) : tFor (iList K tl) g tb D σ H := h
theorem w_lstQ {a : Addr} {xs : List V} (hx : SqL K H a xs) (Pv : Nat → L2.St → Hp → Prop) (h0 : Pv 0 σ H) (hl : ∀ i σ H, i ≤ xs.length → Pv i σ H → SqL K H a xs)
    (hs : ∀ i x σ H, xs[i]? = some x → Pv i σ H → g x σ H fun σ2 H2 => tb { D with nx := Pv (i + 1), ct := Pv (i + 1), bk := D.nx } σ2 H2) (hd : ∀ σ H, Pv xs.length σ H → D.nx σ H) : lstQ K g tb D σ (.ref a) H :=
  ⟨a, rfl, ⟨xs, hx⟩, for_list (xs := xs) Pv h0 hl hs hd⟩
def tupQ (K : PySem.W.Frag) (g : TG) (tb : TS) (D : Ends) (σ : L2.St) (x : V) (H : Hp) : Prop := ∃ a, x = .ref a ∧ (∃ xs, SqT K H a xs) ∧ Turns (Itt K a) g tb D σ H
theorem w_forT (h : tl σ H fun x H1 => tupQ K g tb D σ x H1) : tFor (iTup K tl) g tb D σ H := h
theorem w_tupQ {a : Addr} {xs : List V} (hx : SqT K H a xs) (Pv : Nat → L2.St → Hp → Prop) (h0 : Pv 0 σ H) (hl : ∀ i σ H, i ≤ xs.length → Pv i σ H → SqT K H a xs)
    (hs : ∀ i x σ H, xs[i]? = some x → Pv i σ H → g x σ H fun σ2 H2 => tb { D with nx := Pv (i + 1), ct := Pv (i + 1), bk := D.nx } σ2 H2) (hd : ∀ σ H, Pv xs.length σ H → D.nx σ H) : tupQ K g tb D σ (.ref a) H :=
  ⟨a, rfl, ⟨xs, hx⟩, for_tup (xs := xs) Pv h0 hl hs hd⟩
def enuQ (g : TG) (tb : TS) (D : Ends) (σ : L2.St) (vs : List V) (H : Hp) : Prop := ∃ x, vs = [.str x] ∧ Turns (Ites x) g tb D σ H
theorem w_forE (h : ta σ H fun vs H1 => enuQ g tb D σ vs H1) : tFor (iEnumS ta) g tb D σ H := h
theorem w_enuQ {l : List Nat} (Pv : Nat → L2.St → Hp → Prop) (h0 : Pv 0 σ H)
    (hs : ∀ i c σ H T, l[i]? = some c → Pv i σ H → H T = none → g (.ref T) σ (upd H T (.tup [.int (i : Nat), vS [c]])) fun σ2 H2 => tb { D with nx := Pv (i + 1), ct := Pv (i + 1), bk := D.nx } σ2 H2) (hd : ∀ σ H, Pv l.length σ H → D.nx σ H) : enuQ g tb D σ [vS l] H :=
  ⟨S l, rfl, for_enumS Pv h0 hs hd⟩
theorem w_while {c : TT} (W : Nat → L2.St → Hp → Prop) (m0 : Nat) (h0 : W m0 σ H)
    (hs : ∀ m σ H, W m σ H → c σ H fun b H1 => if b = true then tb { D with nx := fun σ' H' => ∃ m', m' < m ∧ W m' σ' H', ct := fun σ' H' => ∃ m', m' < m ∧ W m' σ' H', bk := D.nx } σ H1 else D.nx σ H1)
    (mono : ∀ σ H Q Q', (∀ b H1, Q b H1 → Q' b H1) → c σ H Q → c σ H Q') : tWhile c tb D σ H := by
  refine ⟨W, ⟨m0, h0⟩, fun m σ H w => ?_⟩
  refine mono σ H _ _ (fun b H1 q => ?_) (hs m σ H w)
  cases b with
  | true => exact ⟨_, fun σ' H' n => n, q⟩
  | false => exact q
end
section
variable {K : PySem.W.Frag} {ta : TA} {tl te : TE} {g : TG} {tt : TT} {vs : List Nat} {σ : L2.St} {H : Hp} {Q : VK}
def accQ (Dl : Addr) (y : V) (H : Hp) (P : Hp → Prop) : Prop := ∃ acc, H Dl = some (.lst acc) ∧ acc.length < sizeLine ∧ P (upd H Dl (.lst (acc ++ [y])))
theorem w_acc {Dl : Addr} {y : V} {P : Hp → Prop} {acc : List V} (h1 : H Dl = some (.lst acc)) (h2 : acc.length < 16777216) (h : P (upd H Dl (.lst (acc ++ [y])))) : accQ Dl y H P := ⟨acc, h1, by rw [line_eq]; exact h2, h⟩
theorem w_yes {Q : Bool → Hp → Prop} (h : Q true H) : tYes σ H Q := h
abbrev LcTurn (g : TG) (tt : TT) (te : TE) (vs : List Nat) (σ : L2.St) (x : V) (H : Hp) (Dl : Addr) (P : Hp → Prop) : Prop := g x (wipe σ vs) H fun σ2 H2 => wipe σ2 vs = wipe σ vs ∧ tt σ2 H2 fun b H3 => if b = true then te σ2 H3 fun y H4 => accQ Dl y H4 P else P H3
def lcTQ (K : PySem.W.Frag) (g : TG) (tt : TT) (te : TE) (vs : List Nat) (σ : L2.St) (x : V) (H : Hp) (Q : VK) : Prop := tLc (iTup K (tC x)) g tt te vs σ H Q
theorem w_lcT (h : tl σ H fun x H1 => lcTQ K g tt te vs σ x H1 Q) : tLc (iTup K tl) g tt te vs σ H Q := h
theorem w_lcTQ {a : Addr} {xs : List V} (hx : SqT K H a xs) (Pv : Addr → Nat → Hp → Prop) (h0 : ∀ Dl, H Dl = none → Pv Dl 0 (upd H Dl (.lst []))) (hl : ∀ Dl i H', i ≤ xs.length → Pv Dl i H' → SqT K H' a xs)
    (hs : ∀ Dl i x H', H Dl = none → xs[i]? = some x → Pv Dl i H' → LcTurn g tt te vs σ x H' Dl (Pv Dl (i + 1))) (hd : ∀ Dl H', H Dl = none → Pv Dl xs.length H' → Q (.ref Dl) H') : lcTQ K g tt te vs σ (.ref a) H Q :=
  ⟨a, rfl, ⟨xs, hx⟩, fun Dl hD => lc_tup (xs := xs) (Pv Dl) (h0 Dl hD) (hl Dl) (fun i x H' hi p => hs Dl i x H' hD hi p) (fun H' p => hd Dl H' hD p)⟩
def lcLQ (K : PySem.W.Frag) (g : TG) (tt : TT) (te : TE) (vs : List Nat) (σ : L2.St) (x : V) (H : Hp) (Q : VK) : Prop := tLc (iList K (tC x)) g tt te vs σ H Q
theorem w_lcL (h : tl σ H fun x H1 => lcLQ K g tt te vs σ x H1 Q) : tLc (iList K tl) g tt te vs σ H Q := h
theorem w_lcLQ {a : Addr} {xs : List V} (hx : SqL K H a xs) (Pv : Addr → Nat → Hp → Prop) (h0 : ∀ Dl, H Dl = none → Pv Dl 0 (upd H Dl (.lst []))) (hl : ∀ Dl i H', i ≤ xs.length → Pv Dl i H' → SqL K H' a xs)
    (hs : ∀ Dl i x H', H Dl = none → xs[i]? = some x → Pv Dl i H' → LcTurn g tt te vs σ x H' Dl (Pv Dl (i + 1))) (hd : ∀ Dl H', H Dl = none → Pv Dl xs.length H' → Q (.ref Dl) H') : lcLQ K g tt te vs σ (.ref a) H Q :=
  ⟨a, rfl, ⟨xs, hx⟩, fun Dl hD => lc_list (xs := xs) (Pv Dl) (h0 Dl hD) (hl Dl) (fun i x H' hi p => hs Dl i x H' hD hi p) (fun H' p => hd Dl H' hD p)⟩
end
theorem kn_bool : kitB "NoneType" "bool" = some false := by decide +kernel
theorem kb_bool : kitB "bool" "bool" = some true := by decide +kernel
theorem ki_bool : kitB "int" "bool" = some false := by decide +kernel
theorem ks_bool : kitB "str" "bool" = some false := by decide +kernel
theorem kt_bool : kitB "tuple" "bool" = some false := by decide +kernel
theorem kb_int : kitB "bool" "int" = some true := by decide +kernel
theorem ki_int : kitB "int" "int" = some true := by decide +kernel
theorem ks_int : kitB "str" "int" = some false := by decide +kernel
theorem kt_int : kitB "tuple" "int" = some false := by decide +kernel
theorem kb_str : kitB "bool" "str" = some false := by decide +kernel
theorem ki_str : kitB "int" "str" = some false := by decide +kernel
theorem ks_str : kitB "str" "str" = some true := by decide +kernel
theorem kt_str : kitB "tuple" "str" = some false := by decide +kernel
theorem kt_tuple : kitB "tuple" "tuple" = some true := by decide +kernel
theorem kt_list : kitB "tuple" "list" = some false := by decide +kernel

theorem _root_.L2.Room.units1 {k : Nat} {A : Around} (r : Room k A) : A.units + 1 < cLine := by have := r.un; omega
/-! ## cuts -/
theorem cutL_nn {α : Type} (l : List α) {a b : Nat} (h1 : a ≤ b) (h2 : b ≤ l.length) : cutL l (some (a : Int)) (some (b : Int)) = (l.drop a).take (b - a) := by
  unfold cutL
  rw [HT.sIx_nat, HT.sIx_nat, Nat.min_eq_left h2, Nat.min_eq_left (by omega)]
theorem cutL_from {α : Type} (l : List α) {a : Nat} (h1 : a ≤ l.length) : cutL l (some (a : Int)) none = l.drop a := by
  unfold cutL
  rw [HT.sIx_nat, HT.sIx_none, Nat.min_eq_left h1]
  exact List.take_of_length_le (by rw [List.length_drop]; exact Nat.le_refl _)
theorem cutL_to {α : Type} (l : List α) (a : Nat) : cutL l none (some (a : Int)) = l.take a := by
  unfold cutL
  rw [HT.sIx_nat, HT.sIx_none, List.drop_zero, Nat.sub_zero]
  by_cases h : a ≤ l.length
  · rw [Nat.min_eq_left h]
  · rw [Nat.min_eq_right (by omega), List.take_of_length_le (Nat.le_refl _), List.take_of_length_le (by omega)]
theorem cutL_le {α : Type} (l : List α) (lo hi : Option Int) : (cutL l lo hi).length ≤ l.length := by
  unfold cutL
  rw [List.length_take, List.length_drop]
  omega
theorem atI_in {l : List Nat} {r : Int} (h0 : 0 ≤ r) (h1 : r < (l.length : Int)) : ∃ c, atI l r = some c := by
  obtain ⟨k, e⟩ := Int.eq_ofNat_of_zero_le h0
  have hk : k < l.length := by omega
  rw [e]
  exact ⟨l[k], atI_nat (List.getElem?_eq_getElem hk)⟩
/-- enough copies, cut to m -/
theorem cutL_from2 {α : Type} (l : List α) (a : Nat) : cutL l (some (a : Int)) none = l.drop a := by
  by_cases h : a ≤ l.length
  · exact cutL_from l h
  · unfold cutL
    rw [HT.sIx_nat, HT.sIx_none, Nat.min_eq_right (by omega), List.drop_length, List.drop_of_length_le (by omega), List.take_nil]
theorem cut_rep_len {l : List Nat} {m : Int} (hl : 1 ≤ l.length) (hm : 0 ≤ m) : ((cutL (rep (m / (l.length : Int) + 1) l) none (some m)).length : Int) = m := by
  obtain ⟨k, e⟩ := Int.eq_ofNat_of_zero_le hm
  rw [e, cutL_to, List.length_take, rep_len]
  have h1 : ((k : Int) / (l.length : Int) + 1).toNat = k / l.length + 1 := by
    have h3 : ((k : Int) / (l.length : Int)) = ((k / l.length : Nat) : Int) := rfl
    rw [h3]
    generalize k / l.length = d
    omega
  rw [h1]
  have h2 : k < (k / l.length + 1) * l.length := by
    rw [Nat.mul_comm]
    exact Nat.lt_mul_div_succ k (by omega)
  omega
/-! ## ints as items -/
abbrev vI (i : Nat) : V := .int (i : Int)
theorem eqV_I {i j : Int} : eqV (.int i) (.int j) = decide (i = j) := by
  show (i == j) = decide (i = j)
  exact Bool.beq_eq_decide_eq i j
theorem inV_I (a : Int) (bs : List Int) : inV (.int a) (bs.map V.int) = decide (a ∈ bs) := by
  induction bs with
  | nil => rfl
  | cons b r ih =>
    show (eqV (.int b) (.int a) || inV (.int a) (r.map V.int)) = _
    rw [ih, eqV_I]
    by_cases h : b = a
    · subst h; simp
    · have h' : ¬ a = b := fun e => h e.symm
      rw [decide_eq_false h]
      simp [h']
theorem inV_N (a : Nat) (bs : List Nat) : inV (vI a) (bs.map vI) = decide (a ∈ bs) := by
  have e : bs.map vI = (bs.map fun (i : Nat) => (i : Int)).map V.int := by rw [List.map_map]; rfl
  rw [e, inV_I]
  congr 1
  apply propext
  rw [List.mem_map]
  constructor
  · rintro ⟨b, hb, e⟩
    have : b = a := Int.ofNat.inj e
    exact this ▸ hb
  · intro h
    exact ⟨a, h, rfl⟩
theorem flat_I (bs : List Nat) : (bs.map vI).all flatV = true := by
  rw [List.all_eq_true]
  intro x hx
  obtain ⟨b, _, rfl⟩ := List.mem_map.mp hx
  rfl
def zInI (K : PySem.W.Frag) : R2 := fun x y H Q => ∃ (a : Nat) (p : Addr) (bs : List Nat), x = vI a ∧ y = .ref p ∧ (SqL K H p (bs.map vI) ∨ SqT K H p (bs.map vI)) ∧ Q (.bl (decide (a ∈ bs))) H
def zNinI (K : PySem.W.Frag) : R2 := fun x y H Q => ∃ (a : Nat) (p : Addr) (bs : List Nat), x = vI a ∧ y = .ref p ∧ (SqL K H p (bs.map vI) ∨ SqT K H p (bs.map vI)) ∧ Q (.bl (!decide (a ∈ bs))) H
section
variable {X : Cx}
theorem op_inI : OpR X (compareOp .In) (zInI X.K) := by
  intro pins s σ H x y v u Q I rx ry h
  obtain ⟨a, p, bs, rfl, rfl, hp, q⟩ := h
  refine op_in_seq pins s σ H _ _ v u Q I rx ry ⟨p, bs.map vI, rfl, hp, rfl, flat_I bs, ?_⟩
  show Q (.bl (inV (vI a) (bs.map vI))) H
  rw [inV_N]
  exact q
theorem op_ninI : OpR X (compareOp .NotIn) (zNinI X.K) := by
  intro pins s σ H x y v u Q I rx ry h
  obtain ⟨a, p, bs, rfl, rfl, hp, q⟩ := h
  refine op_notIn_seq pins s σ H _ _ v u Q I rx ry ⟨p, bs.map vI, rfl, hp, rfl, flat_I bs, ?_⟩
  show Q (.bl (!inV (vI a) (bs.map vI))) H
  rw [inV_N]
  exact q
/-- xs[i] of a list, by values -/
theorem get_listI : PGet X (rIxL X.K) := by
  intro pins s σ H o i ov iv Q I ro ri h
  obtain ⟨p, xs, k, z, rfl, rfl, hq, he, q⟩ := h
  cases ro
  obtain ⟨t, rfl⟩ := ri
  obtain ⟨its, r, pl, hz⟩ := I.list hq
  obtain ⟨j, h1, h2, h3, h4, h5⟩ := atI_get he
  obtain ⟨w, ew, rw'⟩ := r.get h2
  have hl := r.length
  have hn := line63
  have fin : EP X pins σ Q w s := ⟨z, H, I, rw', q⟩
  by_cases h0 : 0 ≤ k
  · have hj : k.toNat = j := by
      rw [seqIndex_of h0 h5] at h1
      exact Option.some.inj h1
    exact wpAny_getItem_list pl.isList h0 (by omega) (by rw [hj]; simpa using ew) fin
  · have hj : (k + (its.toArray.size : Int)).toNat = j := by
      rw [seqIndex_neg (by omega) h4] at h1
      rw [List.size_toArray, ← hl]
      exact Option.some.inj h1
    exact wpAny_getItem_list_neg pl.isList (by omega) (by rw [List.size_toArray] <;> omega) (by omega) (by rw [hj]; simpa using ew) fin
end
section
variable {σ : L2.St} {H : Hp} {Q : VK} {D : Ends} {ta tb te tc td ty tv : TE} {t u : TS} {g : TG} {v : V} {K : PySem.W.Frag}
theorem w_inIT {a : Nat} {p : Addr} {bs : List Nat} (h1 : SqT K H p (bs.map vI)) (h : Q (.bl (decide (a ∈ bs))) H) : zInI K (vI a) (.ref p) H Q := ⟨a, p, bs, rfl, rfl, .inr h1, h⟩
theorem w_inIL {a : Nat} {p : Addr} {bs : List Nat} (h1 : SqL K H p (bs.map vI)) (h : Q (.bl (decide (a ∈ bs))) H) : zInI K (vI a) (.ref p) H Q := ⟨a, p, bs, rfl, rfl, .inl h1, h⟩
theorem w_ninIT {a : Nat} {p : Addr} {bs : List Nat} (h1 : SqT K H p (bs.map vI)) (h : Q (.bl (!decide (a ∈ bs))) H) : zNinI K (vI a) (.ref p) H Q := ⟨a, p, bs, rfl, rfl, .inr h1, h⟩
theorem w_ninIL {a : Nat} {p : Addr} {bs : List Nat} (h1 : SqL K H p (bs.map vI)) (h : Q (.bl (!decide (a ∈ bs))) H) : zNinI K (vI a) (.ref p) H Q := ⟨a, p, bs, rfl, rfl, .inl h1, h⟩
/-! ## dicts -/
def dgetQ (x y : V) (H : Hp) (Q : VK) : Prop := ∃ a v, x = .ref a ∧ DGet H a y (some v) ∧ Q v H
theorem w_dgetQ (h : td σ H fun x H1 => ty σ H1 fun y H2 => dgetQ x y H2 Q) : tDGet td ty σ H Q := h
theorem w_dget {a : Addr} {kvs : List (Key × V)} {k : Key} {y : V} (hy : y = kV k) (h1 : H a = some (.dK kvs)) (h2 : valV kvs k = some v) (h : Q v H) : dgetQ (.ref a) y H Q := by
  subst hy
  exact ⟨a, v, rfl, h2 ▸ DGet.k h1, h⟩
def dinQ (x y : V) (H : Hp) (Q : VK) : Prop := ∃ a o, x = .ref a ∧ DGet H a y o ∧ Q (.bl o.isSome) H
theorem w_dinQ (h : ty σ H fun y H1 => td σ H1 fun x H2 => dinQ x y H2 Q) : tDIn ty td σ H Q := h
theorem w_din {a : Addr} {kvs : List (Key × V)} {k : Key} {y : V} (hy : y = kV k) (h1 : H a = some (.dK kvs)) (h : Q (.bl (valV kvs k).isSome) H) : dinQ (.ref a) y H Q := by
  subst hy
  exact ⟨a, _, rfl, DGet.k h1, h⟩
def dninQ (x y : V) (H : Hp) (Q : VK) : Prop := ∃ a o, x = .ref a ∧ DGet H a y o ∧ Q (.bl (!o.isSome)) H
theorem w_dninQ (h : ty σ H fun y H1 => td σ H1 fun x H2 => dninQ x y H2 Q) : tDNotIn ty td σ H Q := h
theorem w_dnin {a : Addr} {kvs : List (Key × V)} {k : Key} {y : V} (hy : y = kV k) (h1 : H a = some (.dK kvs)) (h : Q (.bl (!(valV kvs k).isSome)) H) : dninQ (.ref a) y H Q := by
  subst hy
  exact ⟨a, _, rfl, DGet.k h1, h⟩
theorem w_setD {a : Addr} {kvs : List (Key × V)} {k : Key} {y : V} {Q : Hp → Prop} (hy : y = kV k) (h1 : H a = some (.dK kvs)) (h2 : kvs.length < 16777216) (h : Q (upd H a (.dK (putK kvs k v)))) : rSetD (.ref a) y v H Q := by
  subst hy
  exact ⟨a, _, rfl, DPut.k h1 (by rw [line_eq]; exact h2), h⟩
def disp1Q (x y : V) (p : Addr) (H : Hp) (Q : VK) : Prop := H p = some (.dK []) ∧ ∃ kvs : List (Key × V), [(x, y)] = kvs.map (fun kv => (kV kv.1, kv.2)) ∧ kvs.length ≤ 15 ∧ Q (.ref p) (upd H p (.dK (mergeK [] kvs)))
theorem w_disp1 {tk tv : TE} (h : ∀ p, H p = none → tk σ (upd H p (.dK [])) fun x H1 => tv σ H1 fun y H2 => disp1Q x y p H2 Q) : tDisp [(tk, tv)] σ H Q := h
theorem w_disp1Q {x y : V} {p : Addr} {k : Key} (hx : x = kV k) (h1 : H p = some (.dK [])) (h : Q (.ref p) (upd H p (.dK [(k, y)]))) : disp1Q x y p H Q := by
  subst hx
  exact ⟨h1, [(k, y)], rfl, by simp, h⟩
theorem w_dnew (h : ∀ p, H p = none → Q (.ref p) (upd H p (.dK []))) : tDNewK σ H Q := h
theorem Tx.dk {H0 H : Hp} {l : Addr} {kvs : List (Key × V)} {o : HO} (x : Tx H0 H) (h : H l = some (.dK kvs)) : Tx H0 (upd H l o) := fun b u k e => by
  have e2 := x b u k e
  have n : b ≠ l := by
    refine ne_of e2 h ?_
    rcases k with ⟨_, rfl⟩ | ⟨_, _, rfl⟩ <;> intro z <;> cases z
  rw [upd_ne n]
  exact e2
theorem w_truI {i : Int} {Q : Bool → Hp → Prop} {H : Hp} {K : PySem.W.Frag} (h : Q (!decide (i = 0)) H) : truQ K (.int i) H Q := by
  refine ⟨_, rfl, ?_⟩
  have e : (i != 0) = !decide (i = 0) := by
    by_cases hi : i = 0
    · subst hi; rfl
    · rw [decide_eq_false hi]
      simp [hi]
  rw [e]
  exact h
theorem ixN_n {n j : Nat} (hj : j < n) : ixN n (j : Int) = some j := by
  unfold ixN
  rw [if_pos (by omega), if_pos (by omega)]
  simp
theorem atI_last {α : Type} {xs : List α} {x : α} : atI (xs ++ [x]) (-1) = some x := by
  unfold atI ixN
  rw [if_neg (by omega), if_pos (by rw [List.length_append, List.length_singleton]; omega)]
  have e : (-1 + ((xs ++ [x]).length : Int)).toNat = xs.length := by
    rw [List.length_append, List.length_singleton]
    omega
  rw [e]
  simp
theorem map_at {α : Type} {f : α → V} {xs : List α} {i : Nat} {v : V} (h : (xs.map f)[i]? = some v) : ∃ x, xs[i]? = some x ∧ v = f x := by
  rw [List.getElem?_map] at h
  obtain ⟨x, e, r⟩ := Option.map_eq_some_iff.mp h
  exact ⟨x, e, r.symm⟩
theorem at_map {α : Type} {f : α → V} {xs : List α} {i : Nat} {x : α} (h : xs[i]? = some x) : (xs.map f)[i]? = some (f x) := by rw [List.getElem?_map, h]; rfl
theorem getD_at {α : Type} {xs : List α} {i : Nat} {d : α} (h : i < xs.length) : xs[i]? = some (xs.getD i d) := by
  rw [List.getD_eq_getElem?_getD, List.getElem?_eq_getElem h]
  rfl
theorem getD_of {α : Type} {xs : List α} {i : Nat} {d x : α} (h : xs[i]? = some x) : xs.getD i d = x := by
  rw [List.getD_eq_getElem?_getD, h]
  rfl
theorem Same.fresh {H H' : Hp} {p : Addr} (s : Same H H') (h : H' p = none) : H p = none := by
  cases e : H p with
  | none => rfl
  | some o => rw [s _ _ e] at h; cases h
theorem rep_map {α : Type} (f : α → V) (x : α) (n : Nat) : List.replicate n (f x) = (List.replicate n x).map f := by rw [List.map_replicate]
/-! ## lists -/
theorem w_rep {l : Addr} {k : Int} {xs : List V} (h1 : H l = some (.lst xs)) (h2 : -100000000 ≤ k) (h3 : k ≤ 100000000) (h4 : xs.length * k.toNat ≤ 16777216) (h : ∀ p, H p = none → Q (.ref p) (upd H p (.lst (List.replicate k.toNat xs).flatten))) : rRep (.ref l) (.int k) H Q :=
  ⟨l, k, xs, rfl, rfl, h1, by omega, by omega, by rw [line_eq]; exact h4, h⟩
theorem flat_one {α : Type} (x : α) : ∀ n : Nat, (List.replicate n [x]).flatten = List.replicate n x
  | 0 => rfl
  | n + 1 => by rw [List.replicate_succ, List.flatten_cons, flat_one x n, List.replicate_succ]; rfl
/-- [x] * n -/
theorem w_rep1 {l : Addr} {n : Nat} {x : V} (h1 : H l = some (.lst [x])) (h2 : n ≤ 16777216) (h : ∀ p, H p = none → Q (.ref p) (upd H p (.lst (List.replicate n x)))) : rRep (.ref l) (.int (n : Int)) H Q := by
  refine w_rep h1 (by omega) (by omega) (by simp; exact h2) fun p hp => ?_
  rw [Int.toNat_natCast, flat_one]
  exact h p hp
theorem w_catL {a b : Addr} {xs ys : List V} (h1 : H a = some (.lst xs)) (h2 : H b = some (.lst ys)) (h3 : xs.length + ys.length ≤ 16777216) (h : ∀ p, H p = none → Q (.ref p) (upd H p (.lst (xs ++ ys)))) : rCat (.ref a) (.ref b) H Q :=
  ⟨a, b, xs, ys, rfl, rfl, h1, h2, by rw [line_eq]; exact h3, h⟩
theorem w_catA {a b : Addr} {xs ys : List V} (h1 : SqT K H a xs) (h2 : SqT K H b ys) (h3 : xs.length + ys.length ≤ 16777216) (h : ∀ p H', Same H H' → SqT K H' p (xs ++ ys) → Q (.ref p) H') : rCatA K (.ref a) (.ref b) H Q := by
  refine ⟨a, b, xs, ys, rfl, rfl, h1, h2, by rw [line_eq]; exact h3, fun e => ?_, fun _ e => ?_, fun _ _ p hp => ?_⟩
  · subst e
    exact h b H (Same.refl _) h2
  · subst e
    exact h a H (Same.refl _) (by rw [List.append_nil]; exact h1)
  · exact h p _ (same_new hp) (SqT.of upd_same)
theorem w_sumL {a : Addr} {ns : List Int} (h1 : SqL K H a (ns.map V.int)) (h : Q (.int ns.sum) H) : rSum K [.ref a] H Q := ⟨a, ns, rfl, h1, h⟩
theorem w_augS {to ti te : TE} {tget : V → V → Hp → VK → Prop} {tip : TIp} {tset : TSet} (h : to σ H fun o H1 => ti σ H1 fun i H2 => tget o i H2 fun x H3 => te σ H3 fun y H4 => tip x y H4 fun z H5 => tset o i z H5 fun H6 => D.nx σ H6) : tAugS to ti te tget tip tset D σ H := h
theorem w_ipI {f : Int → Int → Int} {i j : Int} (h : Q (.int (f i j)) H) : ipI f (.int i) (.int j) H Q := ⟨i, j, rfl, rfl, h⟩
theorem w_aug {i : Nat} {ti : TIp} (h1 : σ[i]? = some (some v)) (h : te σ H fun y H1 => ti v y H1 fun z H2 => D.nx (σ.set i (some z)) H2) : tAug i te ti D σ H := ⟨v, h1, h⟩
def tupRgQ (a b : Int) (H : Hp) (Q : VK) : Prop := RgOk a b ∧ ∀ q, H q = none → Q (.ref q) (upd H q (.tup (rgV a b)))
def rg1Q (x : V) (H : Hp) (Q : Int → Int → Hp → Prop) : Prop := ∃ n, x = .int n ∧ Q 0 n H
theorem w_tupRg {te : L2.St → Hp → (Int → Int → Hp → Prop) → Prop} (h : te σ H fun a b H1 => tupRgQ a b H1 Q) : tTupRg te σ H Q := h
theorem w_rg1 {Q : Int → Int → Hp → Prop} (h : ta σ H fun x H1 => rg1Q x H1 Q) : tRg1 ta σ H Q := h
theorem w_rg1Q {n : Int} {Q : Int → Int → Hp → Prop} (h : Q 0 n H) : rg1Q (.int n) H Q := ⟨n, rfl, h⟩
theorem rgV0 (n : Nat) : rgV 0 (n : Int) = (List.range n).map vI := by
  unfold rgV
  rw [Int.sub_zero, Int.toNat_natCast]
  apply List.map_congr_left
  intro i _
  rw [Int.zero_add]
theorem w_tupRg0 {n : Nat} (h1 : n ≤ 16777216) (h : ∀ q, H q = none → Q (.ref q) (upd H q (.tup ((List.range n).map vI)))) : tupRgQ 0 (n : Int) H Q :=
  ⟨RgOk.of_le (by omega) (by omega) (by omega) (by omega), fun q hq => by rw [rgV0]; exact h q hq⟩
end
/-! ## for -/
section
variable {K : PySem.W.Frag} {ta : TA} {tl : TE} {g : TG} {tb : TS} {D : Ends} {σ : L2.St} {H : Hp}
def enlQ (K : PySem.W.Frag) (g : TG) (tb : TS) (D : Ends) (σ : L2.St) (vs : List V) (H : Hp) : Prop := ∃ a xs, vs = [.ref a] ∧ SqL K H a xs ∧ Turns (Ite K a) g tb D σ H
theorem w_forEL (h : ta σ H fun vs H1 => enlQ K g tb D σ vs H1) : tFor (iEnum K ta) g tb D σ H := h
theorem w_enlQ {a : Addr} {xs : List V} (hx : SqL K H a xs) (Pv : Nat → L2.St → Hp → Prop) (h0 : Pv 0 σ H) (hl : ∀ i σ H, i ≤ xs.length → Pv i σ H → SqL K H a xs)
    (hs : ∀ i x T σ H, xs[i]? = some x → Pv i σ H → H T = none → g (.ref T) σ (upd H T (.tup [vI i, x])) fun σ2 H2 => tb { D with nx := Pv (i + 1), ct := Pv (i + 1), bk := D.nx } σ2 H2) (hd : ∀ σ H, Pv xs.length σ H → D.nx σ H) : enlQ K g tb D σ [.ref a] H := by
  refine ⟨a, xs, rfl, hx, for_it walk_enum Pv h0 hl (fun i x σ H H' hi p y => ?_) hd⟩
  obtain ⟨T, x1, x2, rfl, hT, rfl, e1, e2⟩ := y
  have e1' : vI i = x1 := Option.some.inj e1
  subst e1'
  exact hs i x2 T σ H e2 p hT
def chrQ (g : TG) (tb : TS) (D : Ends) (σ : L2.St) (v : V) (H : Hp) : Prop := ∃ x, v = .str x ∧ Turns (Its x) g tb D σ H
theorem w_forS (h : tl σ H fun v H1 => chrQ g tb D σ v H1) : tFor (iStr tl) g tb D σ H := h
theorem w_chrQ {l : List Nat} (Pv : Nat → L2.St → Hp → Prop) (h0 : Pv 0 σ H)
    (hs : ∀ i c σ H, l[i]? = some c → Pv i σ H → g (vS [c]) σ H fun σ2 H2 => tb { D with nx := Pv (i + 1), ct := Pv (i + 1), bk := D.nx } σ2 H2) (hd : ∀ σ H, Pv l.length σ H → D.nx σ H) : chrQ g tb D σ (vS l) H := by
  have hz : (S l).cps.size = l.length := by simp
  have W : Walk (Its (S l)) l.length (fun _ => True) (fun i H v H' => H' = H ∧ ∃ c, (S l).cps[i]? = some c ∧ v = .str ⟨#[c]⟩) := hz ▸ walk_str
  refine ⟨S l, rfl, for_it W Pv h0 (fun _ _ _ _ _ => trivial) (fun i x σ H H' hi p y => ?_) hd⟩
  obtain ⟨rfl, c, hc, rfl⟩ := y
  exact hs i c σ H' (by simpa using hc) p
end
/-! ## comprehensions -/
section
variable {K : PySem.W.Frag} {ta : TA} {tl te : TE} {g : TG} {tt : TT} {vs : List Nat} {σ : L2.St} {H : Hp} {Q : VK}
def lcR1Q (g : TG) (tt : TT) (te : TE) (vs : List Nat) (σ : L2.St) (xs : List V) (H : Hp) (Q : VK) : Prop := tLc (iRng1 (fun _ H P => P xs H)) g tt te vs σ H Q
theorem w_lcR1 (h : ta σ H fun xs H1 => lcR1Q g tt te vs σ xs H1 Q) : tLc (iRng1 ta) g tt te vs σ H Q := h
theorem w_lcR1Q {j : Int} (h1 : -1000000000 ≤ j) (h2 : j ≤ 1000000000) (Pv : Addr → Nat → Hp → Prop) (h0 : ∀ Dl, H Dl = none → Pv Dl 0 (upd H Dl (.lst [])))
    (hs : ∀ Dl (i : Nat) H', H Dl = none → (i : Int) < j → Pv Dl i H' → LcTurn g tt te vs σ (vI i) H' Dl (Pv Dl (i + 1))) (hd : ∀ Dl H', H Dl = none → Pv Dl j.toNat H' → Q (.ref Dl) H') : lcR1Q g tt te vs σ [.int j] H Q := by
  refine ⟨j, rfl, by omega, by omega, fun Dl hD => lc_it (walk_range (lo := 0) (n := j.toNat)) (Pv Dl) (h0 Dl hD) (fun _ _ _ _ => trivial) (fun i x H1 H' hi p y => ?_) (fun H' p => hd Dl H' hD p)⟩
  obtain ⟨rfl, rfl⟩ := y
  have e0 : (0 : Int) + (i : Int) = (i : Int) := Int.zero_add _
  show g (.int (0 + (i : Int))) _ _ _
  rw [e0]
  exact hs Dl i H' hD (by omega) p
def lcR2Q (g : TG) (tt : TT) (te : TE) (vs : List Nat) (σ : L2.St) (xs : List V) (H : Hp) (Q : VK) : Prop := tLc (iRng2 (fun _ H P => P xs H)) g tt te vs σ H Q
theorem w_lcR2 (h : ta σ H fun xs H1 => lcR2Q g tt te vs σ xs H1 Q) : tLc (iRng2 ta) g tt te vs σ H Q := h
theorem w_lcR2Q {lo hi : Int} (h1 : -1000000000 ≤ lo ∧ lo ≤ 1000000000) (h2 : -1000000000 ≤ hi ∧ hi ≤ 1000000000) (Pv : Addr → Nat → Hp → Prop) (h0 : ∀ Dl, H Dl = none → Pv Dl 0 (upd H Dl (.lst [])))
    (hs : ∀ Dl (i : Nat) H', H Dl = none → lo + (i : Int) < hi → Pv Dl i H' → LcTurn g tt te vs σ (.int (lo + (i : Int))) H' Dl (Pv Dl (i + 1))) (hd : ∀ Dl H', H Dl = none → Pv Dl (hi - lo).toNat H' → Q (.ref Dl) H') : lcR2Q g tt te vs σ [.int lo, .int hi] H Q := by
  refine ⟨lo, hi, rfl, by omega, fun Dl hD => lc_it (walk_range (lo := lo) (n := (hi - lo).toNat)) (Pv Dl) (h0 Dl hD) (fun _ _ _ _ => trivial) (fun i x H1 H' hi p y => ?_) (fun H' p => hd Dl H' hD p)⟩
  obtain ⟨rfl, rfl⟩ := y
  exact hs Dl i H' hD (by omega) p
def lcSQ (g : TG) (tt : TT) (te : TE) (vs : List Nat) (σ : L2.St) (x : V) (H : Hp) (Q : VK) : Prop := tLc (iStr (tC x)) g tt te vs σ H Q
theorem w_lcS (h : tl σ H fun x H1 => lcSQ g tt te vs σ x H1 Q) : tLc (iStr tl) g tt te vs σ H Q := h
theorem w_lcSQ {l : List Nat} (Pv : Addr → Nat → Hp → Prop) (h0 : ∀ Dl, H Dl = none → Pv Dl 0 (upd H Dl (.lst [])))
    (hs : ∀ Dl i c H', H Dl = none → l[i]? = some c → Pv Dl i H' → LcTurn g tt te vs σ (vS [c]) H' Dl (Pv Dl (i + 1))) (hd : ∀ Dl H', H Dl = none → Pv Dl l.length H' → Q (.ref Dl) H') : lcSQ g tt te vs σ (vS l) H Q := by
  have hz : (S l).cps.size = l.length := by simp
  have W : Walk (Its (S l)) l.length (fun _ => True) (fun i H v H' => H' = H ∧ ∃ c, (S l).cps[i]? = some c ∧ v = .str ⟨#[c]⟩) := hz ▸ walk_str
  refine ⟨S l, rfl, fun Dl hD => lc_it W (Pv Dl) (h0 Dl hD) (fun _ _ _ _ => trivial) (fun i x H1 H' hi p y => ?_) (fun H' p => hd Dl H' hD p)⟩
  obtain ⟨rfl, c, hc, rfl⟩ := y
  exact hs Dl i c H' hD (by simpa using hc) p
end

theorem sqL_same {K : PySem.W.Frag} {H H' : Hp} {a : Addr} {xs : List V} (s : Same H H') (h : SqL K H a xs) : SqL K H' a xs := by
  rcases h with (h | ⟨o, h⟩) | h
  · exact .inl (.inl (s _ _ h))
  · exact .inl (.inr ⟨o, s _ _ h⟩)
  · exact .inr h
theorem Kp.mut {p g c : Addr} {H H' : Hp} {o : HO} (k : Kp p g H H') (hc : H c = none) : Kp p g H (upd H' c o) := fun b u k1 k2 e => get_ne (ne_of_none e hc) (k b u k1 k2 e)
theorem Kp.fresh {p g c : Addr} {H H' : Hp} (k : Kp p g H H') (h1 : c ≠ p) (h2 : c ≠ g) (h : H' c = none) : H c = none := by
  cases e : H c with
  | none => rfl
  | some o => rw [k c o h1 h2 e] at h; cases h
theorem Kp.new {p g c : Addr} {H H' : Hp} {o : HO} (k : Kp p g H H') (h : H' c = none) : Kp p g H (upd H' c o) := fun b u k1 k2 e => get_ne (ne_of_none (k b u k1 k2 e) h) (k b u k1 k2 e)
theorem cutL_mem {α : Type} {l : List α} {lo hi : Option Int} {x : α} (h : x ∈ cutL l lo hi) : x ∈ l := by
  unfold cutL at h
  exact List.mem_of_mem_drop (List.mem_of_mem_take h)
theorem rep_mem {α : Type} {l : List α} {n : Int} {x : α} (h : x ∈ rep n l) : x ∈ l := by
  unfold rep at h
  obtain ⟨y, hy, hx⟩ := List.mem_flatten.mp h
  rw [(List.mem_replicate.mp hy).2] at hx
  exact hx
/-! ## text[::-1] -/
theorem rev_pick (l : List Nat) : (Builtin.Str.strSliceIndices none none (-1) (S l).length).filterMap ((S l).cps[·]?) = l.reverse := by
  have e : Builtin.Str.strSliceIndices none none (-1) (S l).length = sliceRange (((S l).length : Int) - 1) (-1) (-1) := by
    first | rfl | simp [Builtin.Str.strSliceIndices]
  rw [e, PySem.W.krv_sliceRange, PySem.W.krv_range, List.filterMap_reverse]
  have h := PySem.W.krv_all (S l).cps
  exact congrArg List.reverse h
def revSQ (x : V) (H : Hp) (Q : VK) : Prop := ∃ l, x = vS l ∧ l.length ≤ 16777216 ∧ Q (vS l.reverse) H
def tRevS (te : TE) : TE := fun σ H Q => te σ H fun x H1 => revSQ x H1 Q
section
variable {X : Cx}
theorem pe_revS {e : Expr} {te : TE} {k : Nat} {p1 p2 p3 pos : Pos} (he : PE X e te) : PE X (.Subscript e (.Slice none none (some (.UnaryOp .USub (.Constant (.int 1) k p1) p2)) p3) pos) (tRevS te) := by
  refine ⟨fun pins s σ H Q I h => ?_⟩
  refine Subscript_ (thn (he.run pins s σ H _ I h) fun v s1 ⟨x, H1, I1, r1, q1⟩ => ?_)
  obtain ⟨a, ex, hz, q⟩ := q1
  subst ex
  obtain ⟨t, rfl⟩ := r1
  have hst : PO X (some (.UnaryOp .USub (.Constant (.int 1) k p1) p2)) (tPart (tUn (rU fun i => .int (-i)) (tC (.int 1)))) := po_some (pe_un un_neg pe_int)
  refine wpAny_Slice (thn (po_none.run pins s1 σ H1 (fun o H2 => o = none ∧ H2 = H1) I1 ⟨rfl, rfl⟩) fun vl s2 ⟨l, H2, I2, pl, el, e2⟩ => ?_)
  subst el e2
  refine thn (po_none.run pins s2 σ H2 (fun o H3 => o = none ∧ H3 = H2) I2 ⟨rfl, rfl⟩) fun vu s3 ⟨u, H3, I3, pu, eu, e3⟩ => ?_
  subst eu e3
  refine thn (hst.run pins s3 σ H3 (fun o H4 => o = some (-1) ∧ H4 = H3) I3 ⟨1, rfl, -1, rfl, rfl, rfl⟩) fun vs s4 ⟨o, H4, I4, ps, eo, e4⟩ => ?_
  subst eo e4
  have I5 : Inv X pins σ H4 { s4 with heap := s4.heap.push { cls := .type "slice", data := .fields #[vl, vu, vs] } } := I4.kept (t' := s4.toks) fun b ob q => Heap.get?_push_of_some _ q
  cases pl
  cases pu
  obtain ⟨tk, rfl⟩ : ∃ tk, vs = .int (-1) tk := by
    cases ps
    exact ⟨_, rfl⟩
  show wpAny (model X.prog X.w) X.A (subscriptTail e (.Slice none none (some (.UnaryOp .USub (.Constant (.int 1) k p1) p2)) p3) (.str (S a) t) (.ref s4.heap.objs.size)) (EP X pins σ Q) X.xe { s4 with heap := s4.heap.push { cls := .type "slice", data := .fields #[.none, .none, .int (-1) tk] } }
  refine tail_any (ops := [.str (S a) t, .ref s4.heap.objs.size]) (typeIs_str _ _ _) F.slot_str_getitem.lookup ?_ (by with_unfolding_all rfl)
  refine wpAny_getItem_str_slice (l := none) (u := none) (st := some (-1, tk)) ⟨_, Heap.get?_push_size _ rfl, rfl, rfl⟩ rfl ?_
  have e : slicePicked (S a) none none (some (-1, tk)) = Builtin.Str.strSliceIndices none none (-1) (S a).length := rfl
  unfold sliceMade
  rw [e, rev_pick]
  show Made.post (if (((-1 : Int) == 1) && _) = true then _ else _) _ _
  rw [if_neg (by
    rw [show ((-1 : Int) == 1) = false from rfl, Bool.false_and]
    exact Bool.false_ne_true)]
  have hl : (S a.reverse).length ≤ sizeLine := by rw [S_len, List.length_reverse, line_eq]; exact hz
  exact ⟨hl, .str _, H4, I5.tok _, ⟨_, rfl⟩, q⟩
/-! ## list(text) -/
def zListS : List V → Hp → VK → Prop := fun vs H Q => ∃ l : List Nat, vs = [vS l] ∧ l.length ≤ 16777216 ∧ ∀ p, H p = none → Q (.ref p) (upd H p (.lst (l.map fun c => vS [c])))
theorem call_listS (hc : X.calm = true) : CallR X (.type "list") zListS := by
  intro pins s σ H xs us Q I r h
  obtain ⟨l, rfl, hz, q⟩ := h
  cases r with
  | cons r rr =>
    cases rr
    obtain ⟨t, rfl⟩ := r
    refine call_list_str (I.ok.hd hc) (S l) t (fun h' tk acc c' hk e' hi => ?_) (by rw [line_eq]; simpa using hz)
    have hsz : acc.toList.length = l.length := by rw [Array.length_toList, hi.1]; simp
    refine ⟨.ref s.heap.objs.size, upd H s.heap.objs.size (.lst (l.map fun c => vS [c])), I.laid hk (Nat.le_refl _) (show ObjOk X.prog X.w _ _ _ (.lst (l.map fun c => vS [c])) from ⟨?_, acc.toList, c', ?_, ?_⟩), rfl, q _ (I.hok.fresh (Nat.le_refl _))⟩
    · rw [List.length_map, line_eq]; exact hz
    · refine vals_of_at (by rw [List.length_map, hsz]) fun j x u hx hu => ?_
      obtain ⟨c, hc', rfl⟩ := map_at hx
      obtain ⟨c2, u2, h1, rfl⟩ := hi.2 j u (by rw [← hu, Array.getElem?_toList])
      have h1' : l[j]? = some c2 := by simpa using h1
      rw [hc'] at h1'
      cases h1'
      exact ⟨u2, rfl⟩
    · rw [Array.toArray_toList]; exact e'
/-! ## text.find(one sign) -/
theorem idxOf_le : ∀ (l : List Nat) (c i : Nat), l[i]? = some c → l.idxOf c ≤ i
  | a :: r, c, 0, e => by
    have : a = c := Option.some.inj e
    subst this
    rw [List.idxOf_cons_self]
    exact Nat.le_refl _
  | a :: r, c, i + 1, e => by
    have ih := idxOf_le r c i e
    rw [List.idxOf_cons]
    cases (a == c) with
    | true => exact Nat.zero_le _
    | false => exact Nat.succ_le_succ ih
theorem find_sign {l : List Nat} {c : Nat} (h : c ∈ l) : Txt.find (S l) (S [c]) = (l.idxOf c : Int) := by
  have key : ∀ i, StrLaws.At (S l) (S [c]) (S l).length i ↔ l[i]? = some c := fun i => StrLaws.subAt_one (S l) c i
  have hi : l[l.idxOf c]? = some c := by
    rw [List.getElem?_eq_getElem (List.idxOf_lt_length_of_mem h)]
    simp
  rcases find_whole (S l) (S [c]) with ⟨_, hn⟩ | ⟨i, e, hat, hn⟩
  · exact absurd ((key _).mpr hi) (hn _)
  · rw [e]
    have h1 := (key i).mp hat
    have h2 : l.idxOf c ≤ i := idxOf_le l c i h1
    have h3 : ¬ l.idxOf c < i := fun hlt => hn _ hlt ((key _).mpr hi)
    have : i = l.idxOf c := by omega
    rw [this]
def zFind1 : V → List V → Hp → VK → Prop := fun x xs H Q => ∃ (l : List Nat) (c : Nat), x = vS l ∧ xs = [vS [c]] ∧ c ∈ l ∧ Q (.int (l.idxOf c : Nat)) H
theorem mt_find1 : MtR X "str.find" zFind1 := by
  intro pins s σ H x xs v us Q I rx rs h
  obtain ⟨l, c, rfl, rfl, hc, q⟩ := h
  refine mt_find pins s σ H _ _ v us Q I rx rs ⟨S l, S [c], rfl, rfl, ?_⟩
  rw [find_sign hc]
  exact q
/-! ## int(a truth value) -/
def zIntB : List V → Hp → VK → Prop := fun xs H Q => ∃ b, xs = [.bl b] ∧ Q (.int (if b then 1 else 0)) H
theorem call_intB : CallR X (.type "int") zIntB := by
  intro pins s σ H xs us Q I r h
  obtain ⟨b, rfl, q⟩ := h
  exact call_int1 pins s σ H _ us Q I r (.inr ⟨b, rfl, q⟩)
/-! ## list(a list), list(a tuple) -/
def zListT (K : PySem.W.Frag) : List V → Hp → VK → Prop := fun xs H Q => ∃ p ys, xs = [.ref p] ∧ (SqL K H p ys ∨ SqT K H p ys) ∧ ∀ l, H l = none → Q (.ref l) (upd H l (.lst ys))
theorem call_listT : CallR X (.type "list") (zListT X.K) := call_list_of
/-! ## text.upper() of ASCII letters -/
theorem placed_one {l : List Nat} {f : Nat → Nat → List Nat} (h : ∀ i c, c ∈ l → (f i c).length = 1) : (PySem.placed (S l) f).size = l.length := by
  unfold PySem.placed
  rw [Array.size_flatten]
  have e : Array.map Array.size (Array.mapIdx (fun i c => (f i c).toArray) (S l).cps) = Array.replicate l.length 1 := by
    apply Array.ext
    · simp
    · intro i h1 h2
      have hi : i < l.length := by simpa using h2
      simp [h i l[i] (List.getElem_mem hi)]
  rw [e]
  simp
abbrev alphaU : List Nat := [65, 66, 67, 68, 69, 70, 71, 72, 73, 74, 75, 76, 77, 78, 79, 80, 81, 82, 83, 84, 85, 86, 87, 88, 89, 90, 97, 98, 99, 100, 101, 102, 103, 104, 105, 106, 107, 108, 109, 110, 111, 112, 113, 114, 115, 116, 117, 118, 119, 120, 121, 122]
theorem upper_one : ∀ c ∈ alphaU, (Unicode.upperOf c).length = 1 := by decide +kernel
def zUpper : V → List V → Hp → VK → Prop := fun x xs H Q => ∃ l : List Nat, x = vS l ∧ xs = [] ∧ l.length ≤ 100000 ∧ (∀ c ∈ l, c ∈ alphaU) ∧ ∀ l' : List Nat, l'.length = l.length → Q (vS l') H
theorem mt_upperA : MtR X "str.upper" zUpper := by
  intro pins s σ H x xs v us Q I rx rs h
  obtain ⟨l, rfl, rfl, hz, hl, q⟩ := h
  refine mt_upper pins s σ H _ _ v us Q I rx rs ⟨S l, rfl, rfl, by rw [S_len]; omega, ?_⟩
  rw [exS (Txt.upper (S l))]
  refine q _ ?_
  show (PySem.placed (S l) fun _ c => Unicode.upperOf c).toList.length = l.length
  rw [Array.length_toList, placed_one fun _ c hc => upper_one c (hl c hc)]
end
/-! ## dict comprehensions -/
def dputQ (Dl : Addr) (y z : V) (H : Hp) (P : Hp → Prop) : Prop := ∃ kvs k, y = kV k ∧ H Dl = some (.dK kvs) ∧ kvs.length < sizeLine ∧ P (upd H Dl (.dK (putK kvs k z)))
theorem w_dput {Dl : Addr} {y z : V} {H : Hp} {P : Hp → Prop} {kvs : List (Key × V)} {k : Key} (hy : y = kV k) (h1 : H Dl = some (.dK kvs)) (h2 : kvs.length < 16777216) (h : P (upd H Dl (.dK (putK kvs k z)))) : dputQ Dl y z H P := ⟨kvs, k, hy, h1, by rw [line_eq]; exact h2, h⟩
abbrev DcTurn (g : TG) (tt : TT) (tk tv : TE) (vs : List Nat) (σ : L2.St) (x : V) (H : Hp) (Dl : Addr) (P : Hp → Prop) : Prop := g x (wipe σ vs) H fun σ2 H2 => wipe σ2 vs = wipe σ vs ∧ tt σ2 H2 fun b H3 => if b = true then tk σ2 H3 fun y H4 => tv σ2 H4 fun z H5 => dputQ Dl y z H5 P else P H3
theorem dc_it {J : It} {n : Nat} {G : Hp → Prop} {Y : Nat → Hp → V → Hp → Prop} (w : Walk J n G Y) {g : TG} {tt : TT} {tk tv : TE} {vs : List Nat} {σ : L2.St} {H1 : Hp} {D : Addr} {Qd : Hp → Prop} (Pv : Nat → Hp → Prop) (h0 : Pv 0 (upd H1 D (.dK []))) (hG : ∀ i H, i ≤ n → Pv i H → G H)
    (hs : ∀ i x H H', i < n → Pv i H → Y i H x H' → DcTurn g tt tk tv vs σ x H' D (Pv (i + 1))) (hd : ∀ H, Pv n H → Qd H) :
    ∃ W : Nat → Nat → Hp → Prop, (∃ m, W 0 m (upd H1 D (.dK []))) ∧ ∀ i m H, W i m H →
      (J.stop i H ∧ Qd H) ∨ (J.go i H ∧ ∃ Nx : Hp → Prop, (∀ H', Nx H' → ∃ m', m' < m ∧ W (i + 1) m' H') ∧ ∀ x H', J.yld i H x H' → DcTurn g tt tk tv vs σ x H' D Nx) := by
  refine ⟨fun i m H => m = n - i ∧ i ≤ n ∧ Pv i H, ⟨n, by simp, Nat.zero_le _, h0⟩, ?_⟩
  rintro i m H ⟨rfl, hi, p⟩
  have q := hG i H hi p
  by_cases hlt : i < n
  · exact .inr ⟨w.goes i H hlt q, Pv (i + 1), fun H' p' => ⟨n - (i + 1), by omega, rfl, hlt, p'⟩, fun x H' y => hs i x H H' hlt p (w.yields i H x H' hlt q y)⟩
  · have e : i = n := by omega
    subst e
    exact .inl ⟨w.stops H q, hd H p⟩
theorem walk_enumS {l : List Nat} : Walk (Ites (S l)) l.length (fun _ => True) (YPair (fun i => some (vI i)) (fun i => (l[i]?).map fun c => vS [c])) := by
  refine ⟨fun i _ hi _ => ?_, fun _ _ => ?_, fun i H x H' hi _ y => ?_⟩
  · show i < (S l).cps.size
    simpa using hi
  · show l.length = (S l).cps.size
    simp
  · obtain ⟨T, c, rfl, hT, rfl, hc⟩ := y
    exact ⟨T, vI i, vS [c], rfl, hT, rfl, rfl, by show (l[i]?).map _ = _; rw [show l[i]? = some c by simpa using hc]; rfl⟩
section
variable {K : PySem.W.Frag} {ta : TA} {tl te tk tv : TE} {g : TG} {tt : TT} {vs : List Nat} {σ : L2.St} {H : Hp} {Q : VK}
def dcEQ (g : TG) (tt : TT) (tk tv : TE) (vs : List Nat) (σ : L2.St) (xs : List V) (H : Hp) (Q : VK) : Prop := tDc (iEnumS (fun _ H P => P xs H)) g tt tk tv vs σ H Q
theorem w_dcE (h : ta σ H fun xs H1 => dcEQ g tt tk tv vs σ xs H1 Q) : tDc (iEnumS ta) g tt tk tv vs σ H Q := h
theorem w_dcEQ {l : List Nat} (Pv : Addr → Nat → Hp → Prop) (h0 : ∀ Dl, H Dl = none → Pv Dl 0 (upd H Dl (.dK [])))
    (hs : ∀ Dl i c H' T, H Dl = none → l[i]? = some c → Pv Dl i H' → H' T = none → DcTurn g tt tk tv vs σ (.ref T) (upd H' T (.tup [vI i, vS [c]])) Dl (Pv Dl (i + 1))) (hd : ∀ Dl H', H Dl = none → Pv Dl l.length H' → Q (.ref Dl) H') : dcEQ g tt tk tv vs σ [vS l] H Q := by
  refine ⟨S l, rfl, fun Dl hD => dc_it walk_enumS (Pv Dl) (h0 Dl hD) (fun _ _ _ _ => trivial) (fun i x H1 H' hi p y => ?_) (fun H' p => hd Dl H' hD p)⟩
  obtain ⟨T, u1, u2, rfl, hT, rfl, e1, e2⟩ := y
  have e1' : vI i = u1 := Option.some.inj e1
  subst e1'
  obtain ⟨c, hc, e3⟩ := Option.map_eq_some_iff.mp e2
  subst e3
  exact hs Dl i c H1 T hD hc p hT
end
/-! ## steps -/
section
variable {σ : L2.St} {H : Hp} {Q : VK} {te : TE} {v : V} {K : PySem.W.Frag}
theorem w_revSQ (h : te σ H fun x H1 => revSQ x H1 Q) : tRevS te σ H Q := h
theorem w_revS {l : List Nat} (h1 : l.length ≤ 16777216) (h : Q (vS l.reverse) H) : revSQ (vS l) H Q := ⟨l, rfl, h1, h⟩
def revLQ (K : PySem.W.Frag) (x : V) (H : Hp) (Q : VK) : Prop := ∃ a xs, x = .ref a ∧ SqL K H a xs ∧ ∀ p, H p = none → Q (.ref p) (upd H p (.lst xs.reverse))
theorem w_revLQ (h : te σ H fun x H1 => revLQ K x H1 Q) : tRevL K te σ H Q := h
theorem w_revL {a : Addr} {xs : List V} (h1 : SqL K H a xs) (h : ∀ p, H p = none → Q (.ref p) (upd H p (.lst xs.reverse))) : revLQ K (.ref a) H Q := ⟨a, xs, rfl, h1, h⟩
theorem w_listS {l : List Nat} (h1 : l.length ≤ 16777216) (h : ∀ p, H p = none → Q (.ref p) (upd H p (.lst (l.map fun c => vS [c])))) : zListS [vS l] H Q := ⟨l, rfl, h1, h⟩
theorem w_listT {a : Addr} {ys : List V} (h1 : SqT K H a ys) (h : ∀ p, H p = none → Q (.ref p) (upd H p (.lst ys))) : zListT K [.ref a] H Q := ⟨a, ys, rfl, .inr h1, h⟩
theorem w_listL {a : Addr} {ys : List V} (h1 : SqL K H a ys) (h : ∀ p, H p = none → Q (.ref p) (upd H p (.lst ys))) : zListT K [.ref a] H Q := ⟨a, ys, rfl, .inl h1, h⟩
theorem w_find1 {l : List Nat} {c : Nat} (h1 : c ∈ l) (h : Q (vI (l.idxOf c)) H) : zFind1 (vS l) [vS [c]] H Q := ⟨l, c, rfl, rfl, h1, h⟩
theorem w_intB {b : Bool} (h : Q (.int (if b then 1 else 0)) H) : zIntB [.bl b] H Q := ⟨b, rfl, h⟩
theorem w_upper {l : List Nat} (h1 : l.length ≤ 100000) (h2 : ∀ c ∈ l, c ∈ alphaU) (h : ∀ l' : List Nat, l'.length = l.length → Q (vS l') H) : zUpper (vS l) [] H Q := ⟨l, rfl, rfl, h1, h2, h⟩
theorem w_popAt {a : Addr} {xs : List V} {k : Nat} (h1 : H a = some (.lst xs)) (h2 : xs.length ≤ 16777216) (h3 : xs[k]? = some v) (h : Q v (upd H a (.lst (xs.eraseIdx k)))) : rPopAt (.ref a) [vI k] H Q := by
  have hk := (List.getElem?_eq_some_iff.mp h3).1
  exact ⟨a, xs, k, k, v, rfl, rfl, h1, by omega, by omega, by rw [PySem.seqIndex_of (by omega) (by omega)]; simp, h3, h⟩
end

/-! ## values without a heap -/
inductive PV where
  | non | bl (b : Bool) | int (i : Int) | str (l : List Nat) | tup (ds : List PV) | lst (ds : List PV) | dK (kvs : List (Key × PV)) | dT (kvs : List (List Key × PV)) | ty (n : String) | pool | obj (a : Addr) | scr (ns : List Int)
abbrev PL := Option (V × List Addr)
def pads : PL → List Addr
  | none => []
  | some p => p.2
mutual
/-- d stands at v, in the frozen part G of the heap -/
def Rs (K : PySem.W.Frag) (pl : PL) (G : Hp) : PV → V → Prop
  | .non, v => v = .non
  | .bl b, v => v = .bl b
  | .int i, v => v = .int i
  | .str l, v => v = vS l ∧ l.length ≤ 16777216
  | .tup ds, v => ∃ a xs, v = .ref a ∧ G a = some (.tup xs) ∧ Rl K pl G ds xs ∧ ds.length ≤ 16777216
  | .lst ds, v => ∃ a xs, v = .ref a ∧ G a = some (.lst xs) ∧ Rl K pl G ds xs ∧ ds.length ≤ 16777216
  | .dK kvs, v => ∃ a xs, v = .ref a ∧ Rd G a (.dK xs) ∧ Rk K pl G kvs xs ∧ kvs.length ≤ 16777216
  | .dT kvs, v => ∃ a xs, v = .ref a ∧ Rd G a (.dT xs) ∧ Rt K pl G kvs xs ∧ kvs.length ≤ 16777216
  | .ty n, v => v = .ty n
  | .pool, v => ∃ as, pl = some (v, as)
  | .obj a, v => v = .ref a
  | .scr ns, v => ∃ a, v = .ref a ∧ SqL K G a (ns.map V.int) ∧ ns.length ≤ 16777216
def Rl (K : PySem.W.Frag) (pl : PL) (G : Hp) : List PV → List V → Prop
  | [], xs => xs = []
  | d :: ds, xs => ∃ x r, xs = x :: r ∧ Rs K pl G d x ∧ Rl K pl G ds r
def Rk (K : PySem.W.Frag) (pl : PL) (G : Hp) : List (Key × PV) → List (Key × V) → Prop
  | [], xs => xs = []
  | (k, d) :: ds, xs => ∃ x r, xs = (k, x) :: r ∧ Rs K pl G d x ∧ Rk K pl G ds r
def Rt (K : PySem.W.Frag) (pl : PL) (G : Hp) : List (List Key × PV) → List (List Key × V) → Prop
  | [], xs => xs = []
  | (k, d) :: ds, xs => ∃ x r, xs = (k, x) :: r ∧ Rs K pl G d x ∧ Rt K pl G ds r
end
def plLe (pl pl' : PL) : Prop := pl' = pl
theorem plLe.refl (pl : PL) : plLe pl pl := rfl
theorem plLe.trans {a b c : PL} (x : plLe a b) (y : plLe b c) : plLe a c := by
  exact Eq.trans y x
theorem _root_.L2.Same.rd {H H' : Hp} {a : Addr} {u : HO} (s : Same H H') (h : Rd H a u) : Rd H' a u := by
  rcases h with h | ⟨o, h⟩
  · exact .inl (s _ _ h)
  · exact .inr ⟨o, s _ _ h⟩
theorem _root_.L2.Same.sqT {K : PySem.W.Frag} {H H' : Hp} {a : Addr} {xs : List V} (s : Same H H') (h : SqT K H a xs) : SqT K H' a xs := by
  rcases h with h | h
  · exact .inl (s.rd h)
  · exact .inr h
theorem _root_.L2.Same.sqL {K : PySem.W.Frag} {H H' : Hp} {a : Addr} {xs : List V} (s : Same H H') (h : SqL K H a xs) : SqL K H' a xs := by
  rcases h with h | h
  · exact .inl (s.rd h)
  · exact .inr h
section
variable {K : PySem.W.Frag} {pl pl' : PL} {G G' : Hp}
mutual
theorem Rs.mono (s : Same G G') (p : plLe pl pl') : ∀ (d : PV) (v : V), Rs K pl G d v → Rs K pl' G' d v
  | .non, v, h => by unfold Rs at h ⊢; exact h
  | .bl b, v, h => by unfold Rs at h ⊢; exact h
  | .int i, v, h => by unfold Rs at h ⊢; exact h
  | .str l, v, h => by unfold Rs at h ⊢; exact h
  | .tup ds, v, h => by
    unfold Rs at h ⊢
    obtain ⟨a, xs, e, h1, h2, h3⟩ := h
    exact ⟨a, xs, e, s _ _ h1, Rl.mono s p ds xs h2, h3⟩
  | .lst ds, v, h => by
    unfold Rs at h ⊢
    obtain ⟨a, xs, e, h1, h2, h3⟩ := h
    exact ⟨a, xs, e, s _ _ h1, Rl.mono s p ds xs h2, h3⟩
  | .dK ds, v, h => by
    unfold Rs at h ⊢
    obtain ⟨a, xs, e, h1, h2, h3⟩ := h
    exact ⟨a, xs, e, s.rd h1, Rk.mono s p ds xs h2, h3⟩
  | .dT ds, v, h => by
    unfold Rs at h ⊢
    obtain ⟨a, xs, e, h1, h2, h3⟩ := h
    exact ⟨a, xs, e, s.rd h1, Rt.mono s p ds xs h2, h3⟩
  | .ty n, v, h => by unfold Rs at h ⊢; exact h
  | .pool, v, h => by
    unfold Rs at h ⊢
    obtain ⟨as, e⟩ := h
    exact ⟨as, Eq.trans p e⟩
  | .obj a, v, h => by unfold Rs at h ⊢; exact h
  | .scr ns, v, h => by
    unfold Rs at h ⊢
    obtain ⟨a, e, h1, h2⟩ := h
    exact ⟨a, e, s.sqL h1, h2⟩
theorem Rl.mono (s : Same G G') (p : plLe pl pl') : ∀ (ds : List PV) (xs : List V), Rl K pl G ds xs → Rl K pl' G' ds xs
  | [], xs, h => by unfold Rl at h ⊢; exact h
  | d :: ds, xs, h => by
    unfold Rl at h ⊢
    obtain ⟨y, r, e, h1, h2⟩ := h
    exact ⟨y, r, e, Rs.mono s p d y h1, Rl.mono s p ds r h2⟩
theorem Rk.mono (s : Same G G') (p : plLe pl pl') : ∀ (ds : List (Key × PV)) (xs : List (Key × V)), Rk K pl G ds xs → Rk K pl' G' ds xs
  | [], xs, h => by unfold Rk at h ⊢; exact h
  | (k, d) :: ds, xs, h => by
    unfold Rk at h ⊢
    obtain ⟨y, r, e, h1, h2⟩ := h
    exact ⟨y, r, e, Rs.mono s p d y h1, Rk.mono s p ds r h2⟩
theorem Rt.mono (s : Same G G') (p : plLe pl pl') : ∀ (ds : List (List Key × PV)) (xs : List (List Key × V)), Rt K pl G ds xs → Rt K pl' G' ds xs
  | [], xs, h => by unfold Rt at h ⊢; exact h
  | (k, d) :: ds, xs, h => by
    unfold Rt at h ⊢
    obtain ⟨y, r, e, h1, h2⟩ := h
    exact ⟨y, r, e, Rs.mono s p d y h1, Rt.mono s p ds r h2⟩
end
theorem Rl.len : ∀ {ds : List PV} {xs : List V}, Rl K pl G ds xs → xs.length = ds.length
  | [], xs, h => by unfold Rl at h; rw [h]; rfl
  | d :: ds, xs, h => by
    unfold Rl at h
    obtain ⟨y, r, rfl, _, h2⟩ := h
    rw [List.length_cons, List.length_cons, Rl.len h2]
theorem Rl.get : ∀ {ds : List PV} {xs : List V} {i : Nat} {d : PV}, Rl K pl G ds xs → ds[i]? = some d → ∃ x, xs[i]? = some x ∧ Rs K pl G d x
  | [], _, _, _, _, e => by simp at e
  | d :: ds, xs, 0, d', h, e => by
    unfold Rl at h
    obtain ⟨y, r, rfl, h1, _⟩ := h
    have e' : d = d' := Option.some.inj e
    subst e'
    exact ⟨y, rfl, h1⟩
  | d :: ds, xs, i + 1, d', h, e => by
    unfold Rl at h
    obtain ⟨y, r, rfl, _, h2⟩ := h
    exact Rl.get (i := i) h2 e
theorem Rl.get' {ds : List PV} {xs : List V} {i : Nat} {x : V} (h : Rl K pl G ds xs) (e : xs[i]? = some x) : ∃ d, ds[i]? = some d ∧ Rs K pl G d x := by
  have hl := h.len
  have hi : i < ds.length := by rw [← hl]; exact (List.getElem?_eq_some_iff.mp e).1
  obtain ⟨y, h1, h2⟩ := h.get (List.getElem?_eq_getElem hi)
  rw [e] at h1
  cases h1
  exact ⟨_, List.getElem?_eq_getElem hi, h2⟩
theorem Rl.nil : Rl K pl G [] [] := by unfold Rl; rfl
theorem Rl.cons {d : PV} {ds : List PV} {x : V} {xs : List V} (h1 : Rs K pl G d x) (h2 : Rl K pl G ds xs) : Rl K pl G (d :: ds) (x :: xs) := by
  unfold Rl
  exact ⟨x, xs, rfl, h1, h2⟩
theorem rl_cons {d : PV} {ds : List PV} {xs : List V} (h : Rl K pl G (d :: ds) xs) : ∃ x r, xs = x :: r ∧ Rs K pl G d x ∧ Rl K pl G ds r := by unfold Rl at h; exact h
theorem rl_nil {xs : List V} (h : Rl K pl G [] xs) : xs = [] := by unfold Rl at h; exact h
theorem Rl.app : ∀ {ds es : List PV} {xs ys : List V}, Rl K pl G ds xs → Rl K pl G es ys → Rl K pl G (ds ++ es) (xs ++ ys)
  | [], es, xs, ys, h, k => by rw [rl_nil h]; exact k
  | d :: ds, es, xs, ys, h, k => by
    obtain ⟨x, r, rfl, h1, h2⟩ := rl_cons h
    exact Rl.cons h1 (Rl.app h2 k)
theorem Rl.snoc {ds : List PV} {xs : List V} {d : PV} {x : V} (h : Rl K pl G ds xs) (hx : Rs K pl G d x) : Rl K pl G (ds ++ [d]) (xs ++ [x]) := h.app (Rl.cons hx Rl.nil)
theorem Rl.drop : ∀ {ds : List PV} {xs : List V} (n : Nat), Rl K pl G ds xs → Rl K pl G (ds.drop n) (xs.drop n)
  | ds, xs, 0, h => h
  | [], xs, n + 1, h => by rw [rl_nil h]; exact Rl.nil
  | d :: ds, xs, n + 1, h => by
    obtain ⟨x, r, rfl, _, h2⟩ := rl_cons h
    exact Rl.drop n h2
theorem Rl.take : ∀ {ds : List PV} {xs : List V} (n : Nat), Rl K pl G ds xs → Rl K pl G (ds.take n) (xs.take n)
  | ds, xs, 0, h => Rl.nil
  | [], xs, n + 1, h => by rw [rl_nil h]; exact Rl.nil
  | d :: ds, xs, n + 1, h => by
    obtain ⟨x, r, rfl, h1, h2⟩ := rl_cons h
    exact Rl.cons h1 (Rl.take n h2)
theorem Rl.set : ∀ {ds : List PV} {xs : List V} {d : PV} {x : V} (n : Nat), Rl K pl G ds xs → Rs K pl G d x → Rl K pl G (ds.set n d) (xs.set n x)
  | [], xs, _, _, n, h, hx => by rw [rl_nil h]; exact Rl.nil
  | d0 :: ds, xs, d, x, 0, h, hx => by
    obtain ⟨y, r, rfl, h1, h2⟩ := rl_cons h
    exact Rl.cons hx h2
  | d0 :: ds, xs, d, x, n + 1, h, hx => by
    obtain ⟨y, r, rfl, h1, h2⟩ := rl_cons h
    exact Rl.cons h1 (Rl.set n h2 hx)
theorem Rl.rev {ds : List PV} {xs : List V} (h : Rl K pl G ds xs) : Rl K pl G ds.reverse xs.reverse := by
  induction ds generalizing xs with
  | nil => rw [rl_nil h]; exact Rl.nil
  | cons d ds ih =>
    obtain ⟨x, r, rfl, h1, h2⟩ := rl_cons h
    rw [List.reverse_cons, List.reverse_cons]
    exact (ih h2).snoc h1
theorem Rl.map {α : Type} {f : α → PV} {g : α → V} : ∀ {l : List α}, (∀ x ∈ l, Rs K pl G (f x) (g x)) → Rl K pl G (l.map f) (l.map g)
  | [], _ => Rl.nil
  | a :: l, h => Rl.cons (h a (List.mem_cons_self)) (Rl.map fun x hx => h x (List.mem_cons_of_mem _ hx))
theorem Rl.rep {d : PV} {x : V} (h : Rs K pl G d x) : ∀ n : Nat, Rl K pl G (List.replicate n d) (List.replicate n x)
  | 0 => Rl.nil
  | n + 1 => Rl.cons h (Rl.rep h n)
theorem Rl.reps {ds : List PV} {xs : List V} (h : Rl K pl G ds xs) : ∀ n : Nat, Rl K pl G (List.replicate n ds).flatten (List.replicate n xs).flatten
  | 0 => Rl.nil
  | n + 1 => by
    rw [List.replicate_succ, List.replicate_succ, List.flatten_cons, List.flatten_cons]
    exact h.app (Rl.reps h n)
theorem Rs.non : Rs K pl G .non .non := by unfold Rs; rfl
theorem Rs.bl {b : Bool} : Rs K pl G (.bl b) (.bl b) := by unfold Rs; rfl
theorem Rs.int {i : Int} : Rs K pl G (.int i) (.int i) := by unfold Rs; rfl
theorem Rs.str {l : List Nat} (h : l.length ≤ 16777216) : Rs K pl G (.str l) (vS l) := by unfold Rs; exact ⟨rfl, h⟩
theorem Rs.ty {n : String} : Rs K pl G (.ty n) (.ty n) := by unfold Rs; rfl
theorem Rs.tup {a : Addr} {ds : List PV} {xs : List V} (h1 : G a = some (.tup xs)) (h2 : Rl K pl G ds xs) (h3 : ds.length ≤ 16777216) : Rs K pl G (.tup ds) (.ref a) := by unfold Rs; exact ⟨a, xs, rfl, h1, h2, h3⟩
theorem Rs.lst {a : Addr} {ds : List PV} {xs : List V} (h1 : G a = some (.lst xs)) (h2 : Rl K pl G ds xs) (h3 : ds.length ≤ 16777216) : Rs K pl G (.lst ds) (.ref a) := by unfold Rs; exact ⟨a, xs, rfl, h1, h2, h3⟩
theorem Rs.dK {a : Addr} {ds : List (Key × PV)} {xs : List (Key × V)} (h1 : Rd G a (.dK xs)) (h2 : Rk K pl G ds xs) (h3 : ds.length ≤ 16777216) : Rs K pl G (.dK ds) (.ref a) := by unfold Rs; exact ⟨a, xs, rfl, h1, h2, h3⟩
theorem Rs.dT {a : Addr} {ds : List (List Key × PV)} {xs : List (List Key × V)} (h1 : Rd G a (.dT xs)) (h2 : Rt K pl G ds xs) (h3 : ds.length ≤ 16777216) : Rs K pl G (.dT ds) (.ref a) := by unfold Rs; exact ⟨a, xs, rfl, h1, h2, h3⟩
theorem rs_non {v : V} (h : Rs K pl G .non v) : v = .non := by unfold Rs at h; exact h
theorem rs_bl {b : Bool} {v : V} (h : Rs K pl G (.bl b) v) : v = .bl b := by unfold Rs at h; exact h
theorem rs_int {i : Int} {v : V} (h : Rs K pl G (.int i) v) : v = .int i := by unfold Rs at h; exact h
theorem rs_str {l : List Nat} {v : V} (h : Rs K pl G (.str l) v) : v = vS l ∧ l.length ≤ 16777216 := by unfold Rs at h; exact h
theorem rs_ty {n : String} {v : V} (h : Rs K pl G (.ty n) v) : v = .ty n := by unfold Rs at h; exact h
theorem rs_tupH {ds : List PV} {v : V} (h : Rs K pl G (.tup ds) v) : ∃ a xs, v = .ref a ∧ G a = some (.tup xs) ∧ Rl K pl G ds xs ∧ ds.length ≤ 16777216 := by unfold Rs at h; exact h
theorem rs_tup {ds : List PV} {v : V} (h : Rs K pl G (.tup ds) v) : ∃ a xs, v = .ref a ∧ SqT K G a xs ∧ Rl K pl G ds xs ∧ ds.length ≤ 16777216 := by
  obtain ⟨a, xs, e, h1, h2⟩ := rs_tupH h
  exact ⟨a, xs, e, SqT.of h1, h2⟩
theorem rs_lst {ds : List PV} {v : V} (h : Rs K pl G (.lst ds) v) : ∃ a xs, v = .ref a ∧ G a = some (.lst xs) ∧ Rl K pl G ds xs ∧ ds.length ≤ 16777216 := by unfold Rs at h; exact h
theorem rs_dK {ds : List (Key × PV)} {v : V} (h : Rs K pl G (.dK ds) v) : ∃ a xs, v = .ref a ∧ Rd G a (.dK xs) ∧ Rk K pl G ds xs ∧ ds.length ≤ 16777216 := by unfold Rs at h; exact h
theorem rs_dT {ds : List (List Key × PV)} {v : V} (h : Rs K pl G (.dT ds) v) : ∃ a xs, v = .ref a ∧ Rd G a (.dT xs) ∧ Rt K pl G ds xs ∧ ds.length ≤ 16777216 := by unfold Rs at h; exact h
theorem rs_pool {v : V} (h : Rs K pl G .pool v) : ∃ as, pl = some (v, as) := by unfold Rs at h; exact h
theorem Rk.nil : Rk K pl G [] [] := by unfold Rk; rfl
theorem Rk.cons {k : Key} {d : PV} {ds : List (Key × PV)} {x : V} {xs : List (Key × V)} (h1 : Rs K pl G d x) (h2 : Rk K pl G ds xs) : Rk K pl G ((k, d) :: ds) ((k, x) :: xs) := by unfold Rk; exact ⟨x, xs, rfl, h1, h2⟩
theorem rk_cons {k : Key} {d : PV} {ds : List (Key × PV)} {xs : List (Key × V)} (h : Rk K pl G ((k, d) :: ds) xs) : ∃ x r, xs = (k, x) :: r ∧ Rs K pl G d x ∧ Rk K pl G ds r := by unfold Rk at h; exact h
theorem rk_nil {xs : List (Key × V)} (h : Rk K pl G [] xs) : xs = [] := by unfold Rk at h; exact h
theorem Rt.nil : Rt K pl G [] [] := by unfold Rt; rfl
theorem Rt.cons {k : List Key} {d : PV} {ds : List (List Key × PV)} {x : V} {xs : List (List Key × V)} (h1 : Rs K pl G d x) (h2 : Rt K pl G ds xs) : Rt K pl G ((k, d) :: ds) ((k, x) :: xs) := by unfold Rt; exact ⟨x, xs, rfl, h1, h2⟩
theorem rt_cons {k : List Key} {d : PV} {ds : List (List Key × PV)} {xs : List (List Key × V)} (h : Rt K pl G ((k, d) :: ds) xs) : ∃ x r, xs = (k, x) :: r ∧ Rs K pl G d x ∧ Rt K pl G ds r := by unfold Rt at h; exact h
theorem rt_nil {xs : List (List Key × V)} (h : Rt K pl G [] xs) : xs = [] := by unfold Rt at h; exact h
end
/-! ## look up, put -/
section
variable {κ α : Type} [DecidableEq κ]
def lookD (kvs : List (κ × α)) (k : κ) : Option α := (kvs.find? fun kv => decide (kv.1 = k)).map (·.2)
def putD (kvs : List (κ × α)) (k : κ) (v : α) : List (κ × α) :=
  match kvs with
  | [] => [(k, v)]
  | (k', u) :: r => if k' = k then (k', v) :: r else (k', u) :: putD r k v
end
/-! ## what a name may hold -/
/-- an error of an own class, with its fields -/
structure Er where
  C : Addr
  fs : List (Str × PV)
def Rf (K : PySem.W.Frag) (pl : PL) (G : Hp) (fs : List (Str × PV)) (xs : List (Str × V)) : Prop := ∀ f d, fs.lookup f = some d → ∃ x, xs.lookup f = some x ∧ Rs K pl G d x
theorem Rf.mono {K : PySem.W.Frag} {pl pl' : PL} {G G' : Hp} {fs : List (Str × PV)} {xs : List (Str × V)} (s : Same G G') (p : plLe pl pl') (h : Rf K pl G fs xs) : Rf K pl' G' fs xs := fun f d e => by
  obtain ⟨x, e1, e2⟩ := h f d e
  exact ⟨x, e1, Rs.mono s p _ _ e2⟩
theorem rs_obj {K : PySem.W.Frag} {pl : PL} {G : Hp} {a : Addr} {v : V} (h : Rs K pl G (.obj a) v) : v = .ref a := by unfold Rs at h; exact h
theorem rs_scr {K : PySem.W.Frag} {pl : PL} {G : Hp} {ns : List Int} {v : V} (h : Rs K pl G (.scr ns) v) : ∃ a, v = .ref a ∧ SqL K G a (ns.map V.int) ∧ ns.length ≤ 16777216 := by unfold Rs at h; exact h
theorem Rs.scr {K : PySem.W.Frag} {pl : PL} {G : Hp} {ns : List Int} {a : Addr} (h : SqL K G a (ns.map V.int)) (hl : ns.length ≤ 16777216) : Rs K pl G (.scr ns) (.ref a) := by unfold Rs; exact ⟨a, rfl, h, hl⟩
theorem Rs.obj {K : PySem.W.Frag} {pl : PL} {G : Hp} {a : Addr} : Rs K pl G (.obj a) (.ref a) := by unfold Rs; rfl
inductive Vl where
  | sh (d : PV)
  | ol (ds : List PV)
  | oo (dss : List (List PV))
  | oK (kvs : List (Key × PV))
  | oT (kvs : List (List Key × PV))
  | er (e : Er) (a dd : Addr)
  | «at» (d : PV) (a : Addr) (ds : List PV)
  | atK (d : PV) (a : Addr) (kvs : List (Key × PV))
  | oD (kvs : List (Key × List PV))
  | oE (kvs : List (List Key × List PV))
  | ob (d : PV) (a dx C : Addr) (fs : List (Str × PV))
abbrev Vl.frz : Vl → PV
  | .sh d => d
  | .ol ds => .lst ds
  | .oo dss => .lst (dss.map .lst)
  | .oK kvs => .dK kvs
  | .oT kvs => .dT kvs
  | .er _ a _ => .obj a
  | .«at» d _ _ => d
  | .atK d _ _ => d
  | .oD kvs => .dK (kvs.map fun kv => (kv.1, .lst kv.2))
  | .oE kvs => .dT (kvs.map fun kv => (kv.1, .lst kv.2))
  | .ob d _ _ _ _ => d
abbrev En := List (Option Vl)
/-- an object's fields, in their sequence -/
def Ra (K : PySem.W.Frag) (pl : PL) (G : Hp) (fs : List (Str × PV)) (xs : List (Str × V)) : Prop := xs.map (·.1) = fs.map (·.1) ∧ Rl K pl G (fs.map (·.2)) (xs.map (·.2))
def RV (K : PySem.W.Frag) (pl : PL) (G H : Hp) : Vl → V → List Addr → Prop
  | .sh d, v, A => A = [] ∧ Rs K pl G d v
  | .ol ds, v, A => ∃ a xs, v = .ref a ∧ A = [a] ∧ H a = some (.lst xs) ∧ Rl K pl G ds xs ∧ ds.length ≤ 16777216
  | .oo dss, v, A => ∃ a as, v = .ref a ∧ A = a :: as ∧ H a = some (.lst (as.map V.ref)) ∧ as.length = dss.length ∧ dss.length ≤ 16777216 ∧
      ∀ (i : Nat) (b : Addr) (ds : List PV), as[i]? = some b → dss[i]? = some ds → ∃ xs, H b = some (.lst xs) ∧ Rl K pl G ds xs ∧ ds.length ≤ 16777216
  | .oK kvs, v, A => ∃ a xs, v = .ref a ∧ A = [a] ∧ H a = some (.dK xs) ∧ Rk K pl G kvs xs ∧ kvs.length ≤ 16777216
  | .oT kvs, v, A => ∃ a xs, v = .ref a ∧ A = [a] ∧ H a = some (.dT xs) ∧ Rt K pl G kvs xs ∧ kvs.length ≤ 16777216
  | .er e a dd, v, A => A = [] ∧ v = .ref a ∧ ∃ xs, G dd = some (.xd xs) ∧ Rf K pl G e.fs xs
  | .«at» d a ds, v, A => ∃ xs, A = [a] ∧ Rs K pl G d v ∧ H a = some (.lst xs) ∧ Rl K pl G ds xs ∧ ds.length ≤ 16777216
  | .atK d a kvs, v, A => ∃ xs, A = [a] ∧ Rs K pl G d v ∧ H a = some (.dK xs) ∧ Rk K pl G kvs xs ∧ kvs.length ≤ 16777216
  | .oD kvs, v, A => ∃ a as, v = .ref a ∧ A = a :: as ∧ H a = some (.dK (kvs.zipWith (fun kv b => (kv.1, V.ref b)) as)) ∧ as.length = kvs.length ∧ kvs.length ≤ 16777216 ∧
      ∀ (i : Nat) (b : Addr) (kv : Key × List PV), as[i]? = some b → kvs[i]? = some kv → ∃ xs, H b = some (.lst xs) ∧ Rl K pl G kv.2 xs ∧ kv.2.length ≤ 16777216
  | .oE kvs, v, A => ∃ a as, v = .ref a ∧ A = a :: as ∧ H a = some (.dT (kvs.zipWith (fun kv b => (kv.1, V.ref b)) as)) ∧ as.length = kvs.length ∧ kvs.length ≤ 16777216 ∧
      ∀ (i : Nat) (b : Addr) (kv : List Key × List PV), as[i]? = some b → kvs[i]? = some kv → ∃ xs, H b = some (.lst xs) ∧ Rl K pl G kv.2 xs ∧ kv.2.length ≤ 16777216
  | .ob d a dx C fs, v, A => ∃ xs, A = [a, dx] ∧ Rs K pl G d v ∧ H a = some (.ins C dx xs) ∧ H dx = some (.own a) ∧ Ra K pl G fs xs
theorem RV.mono {K : PySem.W.Frag} {pl pl' : PL} {G G' H H' : Hp} {vl : Vl} {v : V} {A : List Addr} (h : RV K pl G H vl v A) (s : Same G G') (p : plLe pl pl') (k : ∀ a ∈ A, ∀ o, H a = some o → H' a = some o) : RV K pl' G' H' vl v A := by
  cases vl with
  | sh d => exact ⟨h.1, Rs.mono s p _ _ h.2⟩
  | ol ds =>
    obtain ⟨a, xs, e, rfl, h1, h2, h3⟩ := h
    exact ⟨a, xs, e, rfl, k a (by simp) _ h1, Rl.mono s p _ _ h2, h3⟩
  | oo dss =>
    obtain ⟨a, as, e, rfl, h1, h2, h2', h3⟩ := h
    refine ⟨a, as, e, rfl, k a (by simp) _ h1, h2, h2', fun i b ds e1 e2 => ?_⟩
    obtain ⟨xs, q1, q2, q3⟩ := h3 i b ds e1 e2
    exact ⟨xs, k b (List.mem_cons_of_mem _ (List.mem_of_getElem? e1)) _ q1, Rl.mono s p _ _ q2, q3⟩
  | oK kvs =>
    obtain ⟨a, xs, e, rfl, h1, h2, h3⟩ := h
    exact ⟨a, xs, e, rfl, k a (by simp) _ h1, Rk.mono s p _ _ h2, h3⟩
  | oT kvs =>
    obtain ⟨a, xs, e, rfl, h1, h2, h3⟩ := h
    exact ⟨a, xs, e, rfl, k a (by simp) _ h1, Rt.mono s p _ _ h2, h3⟩
  | er e a dd =>
    obtain ⟨h1, h2, xs, h3, h4⟩ := h
    exact ⟨h1, h2, xs, s _ _ h3, h4.mono s p⟩
  | «at» d a ds =>
    obtain ⟨xs, rfl, h1, h2, h3, h4⟩ := h
    exact ⟨xs, rfl, Rs.mono s p _ _ h1, k a (by simp) _ h2, Rl.mono s p _ _ h3, h4⟩
  | atK d a ds =>
    obtain ⟨xs, rfl, h1, h2, h3, h4⟩ := h
    exact ⟨xs, rfl, Rs.mono s p _ _ h1, k a (by simp) _ h2, Rk.mono s p _ _ h3, h4⟩
  | oD kvs =>
    obtain ⟨a, as, e, rfl, h1, h2, h2', h3⟩ := h
    refine ⟨a, as, e, rfl, k a (by simp) _ h1, h2, h2', fun i b ds e1 e2 => ?_⟩
    obtain ⟨xs, q1, q2, q3⟩ := h3 i b ds e1 e2
    exact ⟨xs, k b (List.mem_cons_of_mem _ (List.mem_of_getElem? e1)) _ q1, Rl.mono s p _ _ q2, q3⟩
  | oE kvs =>
    obtain ⟨a, as, e, rfl, h1, h2, h2', h3⟩ := h
    refine ⟨a, as, e, rfl, k a (by simp) _ h1, h2, h2', fun i b ds e1 e2 => ?_⟩
    obtain ⟨xs, q1, q2, q3⟩ := h3 i b ds e1 e2
    exact ⟨xs, k b (List.mem_cons_of_mem _ (List.mem_of_getElem? e1)) _ q1, Rl.mono s p _ _ q2, q3⟩
  | ob d a dx C fs =>
    obtain ⟨xs, rfl, h1, h2, h3, h4, h5⟩ := h
    exact ⟨xs, rfl, Rs.mono s p _ _ h1, k a (by simp) _ h2, k dx (by simp) _ h3, h4, Rl.mono s p _ _ h5⟩
theorem RV.live {K : PySem.W.Frag} {pl : PL} {G H : Hp} {vl : Vl} {v : V} {A : List Addr} (h : RV K pl G H vl v A) : ∀ a ∈ A, H a ≠ none := by
  cases vl with
  | sh d => intro a ha; rw [h.1] at ha; cases ha
  | ol ds =>
    obtain ⟨a, xs, e, rfl, h1, h2, h3⟩ := h
    intro b hb
    rw [List.mem_singleton.mp hb, h1]
    simp
  | oo dss =>
    obtain ⟨a, as, e, rfl, h1, h2, h2', h3⟩ := h
    intro b hb
    rcases List.mem_cons.mp hb with rfl | hb
    · rw [h1]; simp
    · obtain ⟨i, hi, rfl⟩ := List.mem_iff_getElem.mp hb
      obtain ⟨xs, q1, _⟩ := h3 i _ dss[i] (List.getElem?_eq_getElem hi) (List.getElem?_eq_getElem (by omega))
      rw [q1]; simp
  | oK kvs =>
    obtain ⟨a, xs, e, rfl, h1, h2, h3⟩ := h
    intro b hb
    rw [List.mem_singleton.mp hb, h1]
    simp
  | oT kvs =>
    obtain ⟨a, xs, e, rfl, h1, h2, h3⟩ := h
    intro b hb
    rw [List.mem_singleton.mp hb, h1]
    simp
  | er e a dd => intro b hb; rw [h.1] at hb; cases hb
  | «at» d a ds =>
    obtain ⟨xs, rfl, h1, h2, h3, h4⟩ := h
    intro b hb
    rw [List.mem_singleton.mp hb, h2]
    simp
  | atK d a ds =>
    obtain ⟨xs, rfl, h1, h2, h3, h4⟩ := h
    intro b hb
    rw [List.mem_singleton.mp hb, h2]
    simp
  | oD kvs =>
    obtain ⟨a, as, e, rfl, h1, h2, h2', h3⟩ := h
    intro b hb
    rcases List.mem_cons.mp hb with rfl | hb
    · rw [h1]; simp
    · obtain ⟨i, hi, rfl⟩ := List.mem_iff_getElem.mp hb
      obtain ⟨xs, q1, _⟩ := h3 i _ kvs[i] (List.getElem?_eq_getElem hi) (List.getElem?_eq_getElem (by omega))
      rw [q1]; simp
  | oE kvs =>
    obtain ⟨a, as, e, rfl, h1, h2, h2', h3⟩ := h
    intro b hb
    rcases List.mem_cons.mp hb with rfl | hb
    · rw [h1]; simp
    · obtain ⟨i, hi, rfl⟩ := List.mem_iff_getElem.mp hb
      obtain ⟨xs, q1, _⟩ := h3 i _ kvs[i] (List.getElem?_eq_getElem hi) (List.getElem?_eq_getElem (by omega))
      rw [q1]; simp
  | ob d a dx C fs =>
    obtain ⟨xs, rfl, h1, h2, h3, h4⟩ := h
    intro b hb
    rcases List.mem_cons.mp hb with rfl | hb
    · rw [h2]; simp
    · rw [List.mem_singleton.mp hb, h3]; simp
/-- the heap G, and of H what stands at A -/
def join (G H : Hp) (A : List Addr) : Hp := fun b => if b ∈ A then H b else G b
theorem join_in {G H : Hp} {A : List Addr} {b : Addr} (h : b ∈ A) : join G H A b = H b := if_pos h
theorem join_out {G H : Hp} {A : List Addr} {b : Addr} (h : b ∉ A) : join G H A b = G b := if_neg h
/-- what is owned may be frozen -/
theorem RV.freeze {K : PySem.W.Frag} {pl : PL} {G H : Hp} {vl : Vl} {v : V} {A : List Addr} (h : RV K pl G H vl v A) (n : ∀ a ∈ A, G a = none) : Rs K pl (join G H A) vl.frz v := by
  have s : Same G (join G H A) := fun b o e => by
    rw [join_out fun hb => by rw [n b hb] at e; cases e]
    exact e
  cases vl with
  | sh d => exact Rs.mono s (plLe.refl _) _ _ h.2
  | ol ds =>
    obtain ⟨a, xs, rfl, rfl, h1, h2, h3⟩ := h
    exact Rs.lst (by rw [join_in (by simp)]; exact h1) (Rl.mono s (plLe.refl _) _ _ h2) h3
  | oo dss =>
    obtain ⟨a, as, rfl, rfl, h1, h2, h2', h3⟩ := h
    refine Rs.lst (by rw [join_in (by simp)]; exact h1) ?_ (by rw [List.length_map]; exact h2')
    have key : ∀ (l : List Addr) (es : List (List PV)), l.length = es.length → (∀ b ∈ l, b ∈ a :: as) → (∀ (i : Nat) (b : Addr) (ds : List PV), l[i]? = some b → es[i]? = some ds → ∃ xs, H b = some (.lst xs) ∧ Rl K pl G ds xs ∧ ds.length ≤ 16777216) →
        Rl K pl (join G H (a :: as)) (es.map PV.lst) (l.map V.ref) := by
      intro l
      induction l with
      | nil =>
        intro es e _ _
        cases es with
        | nil => exact Rl.nil
        | cons _ _ => cases e
      | cons b l ih =>
        intro es e hm hq
        cases es with
        | nil => cases e
        | cons ds es =>
          obtain ⟨xs, q1, q2, q3⟩ := hq 0 b ds rfl rfl
          refine Rl.cons (Rs.lst (by rw [join_in (hm b (by simp))]; exact q1) (Rl.mono s (plLe.refl _) _ _ q2) q3) (ih es (by simpa using e) (fun c hc => hm c (List.mem_cons_of_mem _ hc)) fun i c ds e1 e2 => hq (i + 1) c ds e1 e2)
    exact key as dss h2 (fun b hb => List.mem_cons_of_mem _ hb) h3
  | oK kvs =>
    obtain ⟨a, xs, rfl, rfl, h1, h2, h3⟩ := h
    exact Rs.dK (.inl (by rw [join_in (by simp)]; exact h1)) (Rk.mono s (plLe.refl _) _ _ h2) h3
  | oT kvs =>
    obtain ⟨a, xs, rfl, rfl, h1, h2, h3⟩ := h
    exact Rs.dT (.inl (by rw [join_in (by simp)]; exact h1)) (Rt.mono s (plLe.refl _) _ _ h2) h3
  | er e a dd =>
    obtain ⟨_, h2, _⟩ := h
    rw [h2]
    exact Rs.obj
  | «at» d a ds =>
    obtain ⟨xs, rfl, h1, h2, h3, h4⟩ := h
    exact Rs.mono s (plLe.refl _) _ _ h1
  | atK d a ds =>
    obtain ⟨xs, rfl, h1, h2, h3, h4⟩ := h
    exact Rs.mono s (plLe.refl _) _ _ h1
  | oD kvs =>
    obtain ⟨a, as, rfl, rfl, h1, h2, h2', h3⟩ := h
    refine Rs.dK (.inl (by rw [join_in (by simp)]; exact h1)) ?_ (by rw [List.length_map]; exact h2')
    have key : ∀ (l : List Addr) (es : List (Key × List PV)), l.length = es.length → (∀ b ∈ l, b ∈ a :: as) → (∀ (i : Nat) (b : Addr) (kv : Key × List PV), l[i]? = some b → es[i]? = some kv → ∃ xs, H b = some (.lst xs) ∧ Rl K pl G kv.2 xs ∧ kv.2.length ≤ 16777216) →
        Rk K pl (join G H (a :: as)) (es.map fun kv => (kv.1, .lst kv.2)) (es.zipWith (fun kv b => (kv.1, V.ref b)) l) := by
      intro l
      induction l with
      | nil =>
        intro es e _ _
        cases es with
        | nil => exact Rk.nil
        | cons _ _ => cases e
      | cons b l ih =>
        intro es e hm hq
        cases es with
        | nil => cases e
        | cons ds es =>
          obtain ⟨xs, q1, q2, q3⟩ := hq 0 b ds rfl rfl
          rw [List.map_cons, List.zipWith_cons_cons]
          refine Rk.cons (Rs.lst (by rw [join_in (hm b (by simp))]; exact q1) (Rl.mono s (plLe.refl _) _ _ q2) q3) (ih es (by simpa using e) (fun c hc => hm c (List.mem_cons_of_mem _ hc)) fun i c ds e1 e2 => hq (i + 1) c ds e1 e2)
    exact key as kvs h2 (fun b hb => List.mem_cons_of_mem _ hb) h3
  | oE kvs =>
    obtain ⟨a, as, rfl, rfl, h1, h2, h2', h3⟩ := h
    refine Rs.dT (.inl (by rw [join_in (by simp)]; exact h1)) ?_ (by rw [List.length_map]; exact h2')
    have key : ∀ (l : List Addr) (es : List (List Key × List PV)), l.length = es.length → (∀ b ∈ l, b ∈ a :: as) → (∀ (i : Nat) (b : Addr) (kv : List Key × List PV), l[i]? = some b → es[i]? = some kv → ∃ xs, H b = some (.lst xs) ∧ Rl K pl G kv.2 xs ∧ kv.2.length ≤ 16777216) →
        Rt K pl (join G H (a :: as)) (es.map fun kv => (kv.1, .lst kv.2)) (es.zipWith (fun kv b => (kv.1, V.ref b)) l) := by
      intro l
      induction l with
      | nil =>
        intro es e _ _
        cases es with
        | nil => exact Rt.nil
        | cons _ _ => cases e
      | cons b l ih =>
        intro es e hm hq
        cases es with
        | nil => cases e
        | cons ds es =>
          obtain ⟨xs, q1, q2, q3⟩ := hq 0 b ds rfl rfl
          rw [List.map_cons, List.zipWith_cons_cons]
          refine Rt.cons (Rs.lst (by rw [join_in (hm b (by simp))]; exact q1) (Rl.mono s (plLe.refl _) _ _ q2) q3) (ih es (by simpa using e) (fun c hc => hm c (List.mem_cons_of_mem _ hc)) fun i c ds e1 e2 => hq (i + 1) c ds e1 e2)
    exact key as kvs h2 (fun b hb => List.mem_cons_of_mem _ hb) h3
  | ob d a dx C fs =>
    obtain ⟨xs, rfl, h1, h2, h3, h4⟩ := h
    exact Rs.mono s (plLe.refl _) _ _ h1
/-- something stands there that is no tuple -/
def Oth (H : Hp) (a : Addr) : Prop := H a ≠ none ∧ ∀ xs, H a ≠ some (.tup xs)
theorem Oth.of {H : Hp} {a : Addr} {o : HO} (h : H a = some o) (n : ∀ xs, o ≠ .tup xs) : Oth H a := ⟨by rw [h]; simp, fun xs e => by rw [h] at e; cases e; exact n xs rfl⟩
theorem Oth.lst {H : Hp} {a : Addr} {xs : List V} (h : H a = some (.lst xs)) : Oth H a := .of h fun _ e => nomatch e
theorem Oth.dK {H : Hp} {a : Addr} {xs : List (Key × V)} (h : H a = some (.dK xs)) : Oth H a := .of h fun _ e => nomatch e
theorem Oth.to {H H' : Hp} {a : Addr} (h : Oth H a) (k : ∀ o, H a = some o → H' a = some o) : Oth H' a := by
  cases e : H a with
  | none => exact absurd e h.1
  | some o => exact .of (k o e) fun xs z => h.2 xs (by rw [e, z])
/-! ## what is a pool -/
structure POk where
  ok : V → List Addr → Hp → Prop
  ext : ∀ v as H H', ok v as H → (∀ a ∈ as, H' a = H a) → ok v as H'
  live : ∀ v as H, ok v as H → ∀ a ∈ as, Oth H a
def noPool : POk := ⟨fun _ _ _ => False, fun _ _ _ _ h _ => h, fun _ _ _ h _ _ => h.elim⟩
structure Ok (PO : POk) (G H : Hp) (pl : PL) : Prop where
  sub : Same G H
  pok : ∀ v as, pl = some (v, as) → PO.ok v as H ∧ ∀ a ∈ as, G a = none
theorem Ok.live {PO : POk} {G H : Hp} {pl : PL} (o : Ok PO G H pl) : ∀ a ∈ pads pl, H a ≠ none := by
  intro a ha
  cases e : pl with
  | none => rw [e] at ha; cases ha
  | some p =>
    obtain ⟨v, as⟩ := p
    rw [e] at ha
    exact (PO.live v as H (o.pok v as e).1 a ha).1
theorem Ok.free {PO : POk} {G H : Hp} {pl : PL} (o : Ok PO G H pl) : ∀ a ∈ pads pl, G a = none := by
  intro a ha
  cases e : pl with
  | none => rw [e] at ha; cases ha
  | some p =>
    obtain ⟨v, as⟩ := p
    rw [e] at ha
    exact (o.pok v as e).2 a ha
/-- what is owned is no tuple -/
theorem RV.oth {K : PySem.W.Frag} {pl : PL} {G H : Hp} {vl : Vl} {v : V} {A : List Addr} (h : RV K pl G H vl v A) : ∀ a ∈ A, Oth H a := by
  cases vl with
  | sh d => intro a ha; rw [h.1] at ha; cases ha
  | ol ds =>
    obtain ⟨a, xs, e, rfl, h1, h2, h3⟩ := h
    intro b hb
    rw [List.mem_singleton.mp hb]
    exact .lst h1
  | oo dss =>
    obtain ⟨a, as, e, rfl, h1, h2, h2', h3⟩ := h
    intro b hb
    rcases List.mem_cons.mp hb with rfl | hb
    · exact .lst h1
    · obtain ⟨i, hi, rfl⟩ := List.mem_iff_getElem.mp hb
      obtain ⟨xs, q1, _⟩ := h3 i _ dss[i] (List.getElem?_eq_getElem hi) (List.getElem?_eq_getElem (by omega))
      exact .lst q1
  | oK kvs =>
    obtain ⟨a, xs, e, rfl, h1, h2, h3⟩ := h
    intro b hb
    rw [List.mem_singleton.mp hb]
    exact .dK h1
  | oT kvs =>
    obtain ⟨a, xs, e, rfl, h1, h2, h3⟩ := h
    intro b hb
    rw [List.mem_singleton.mp hb]
    exact .of h1 fun _ e => nomatch e
  | er e a dd => intro b hb; rw [h.1] at hb; cases hb
  | «at» d a ds =>
    obtain ⟨xs, rfl, h1, h2, h3, h4⟩ := h
    intro b hb
    rw [List.mem_singleton.mp hb]
    exact .lst h2
  | atK d a ds =>
    obtain ⟨xs, rfl, h1, h2, h3, h4⟩ := h
    intro b hb
    rw [List.mem_singleton.mp hb]
    exact .dK h2
  | oD kvs =>
    obtain ⟨a, as, e, rfl, h1, h2, h2', h3⟩ := h
    intro b hb
    rcases List.mem_cons.mp hb with rfl | hb
    · exact .dK h1
    · obtain ⟨i, hi, rfl⟩ := List.mem_iff_getElem.mp hb
      obtain ⟨xs, q1, _⟩ := h3 i _ kvs[i] (List.getElem?_eq_getElem hi) (List.getElem?_eq_getElem (by omega))
      exact .lst q1
  | oE kvs =>
    obtain ⟨a, as, e, rfl, h1, h2, h2', h3⟩ := h
    intro b hb
    rcases List.mem_cons.mp hb with rfl | hb
    · exact .of h1 fun _ e => nomatch e
    · obtain ⟨i, hi, rfl⟩ := List.mem_iff_getElem.mp hb
      obtain ⟨xs, q1, _⟩ := h3 i _ kvs[i] (List.getElem?_eq_getElem hi) (List.getElem?_eq_getElem (by omega))
      exact .lst q1
  | ob d a dx C fs =>
    obtain ⟨xs, rfl, h1, h2, h3, h4⟩ := h
    intro b hb
    rcases List.mem_cons.mp hb with rfl | hb
    · exact .of h2 fun _ e => nomatch e
    · rw [List.mem_singleton.mp hb]
      exact .of h3 fun _ e => nomatch e
/-- a step: what was frozen stays, new things come, nothing but the pool changes -/
structure Stp (PO : POk) (G H : Hp) (pl : PL) (G' H' : Hp) (pl' : PL) : Prop where
  g : Same G G'
  gn : ∀ a, Oth H a → G' a = G a
  h : ∀ b o, H b = some o → b ∉ pads pl' → H' b = some o
  pl : pl' = pl
  ok : Ok PO G' H' pl'
section
variable {PO : POk} {G H G1 H1 G2 H2 : Hp} {pl pl1 pl2 : PL}
theorem Stp.le (s : Stp PO G H pl G1 H1 pl1) : plLe pl pl1 := by
  exact s.pl
theorem Stp.refl (o : Ok PO G H pl) : Stp PO G H pl G H pl := ⟨Same.refl _, fun _ _ => rfl, fun _ _ h _ => h, rfl, o⟩
/-- off the pool before and behind -/
theorem Stp.off (s : Stp PO G H pl G1 H1 pl1) {a : Addr} (h1 : H a ≠ none) (h2 : a ∉ pads pl) : a ∉ pads pl1 := by
  rw [s.pl]; exact h2
theorem Stp.on (s : Stp PO G H pl G1 H1 pl1) (o : Ok PO G H pl) {a : Addr} (h1 : H a ≠ none) : H1 a ≠ none := by
  by_cases h2 : a ∈ pads pl1
  · exact s.ok.live a h2
  · cases e : H a with
    | none => exact absurd e h1
    | some ob => rw [s.h a ob e h2]; simp
/-- a place that is no tuple stays in or out of what is frozen -/
theorem Stp.gn' (s : Stp PO G H pl G1 H1 pl1) (o : Ok PO G H pl) {a : Addr} (h : a ∉ pads pl → Oth H a) : G1 a = G a := by
  by_cases h2 : a ∈ pads pl
  · rw [o.free a h2, s.ok.free a (by rw [s.pl]; exact h2)]
  · exact s.gn a (h h2)
theorem Stp.trans (o : Ok PO G H pl) (s : Stp PO G H pl G1 H1 pl1) (t : Stp PO G1 H1 pl1 G2 H2 pl2) : Stp PO G H pl G2 H2 pl2 where
  g := s.g.trans t.g
  gn := fun a ha => (t.gn' s.ok fun h2 => ha.to fun ob e => s.h a ob e h2).trans (s.gn a ha)
  h := fun b ob e hb => by
    have h1 : b ∉ pads pl1 := by
      rw [← t.pl]; exact hb
    exact t.h b ob (s.h b ob e h1) hb
  pl := t.pl.trans s.pl
  ok := t.ok
theorem ok_upd {p : Addr} {u : HO} (o : Ok PO G H pl) (hp : H p = none) : Ok PO G (upd H p u) pl := by
  refine ⟨fun b ob e => ?_, fun v as e => ⟨PO.ext v as H _ (o.pok v as e).1 fun a ha => ?_, (o.pok v as e).2⟩⟩
  · have := o.sub b ob e
    rw [upd_ne (ne_of_none this hp)]
    exact this
  · have := (PO.live v as H (o.pok v as e).1 a ha).1
    exact upd_ne fun z => by subst z; exact this hp
theorem Stp.tmp {p : Addr} {u : HO} (o : Ok PO G H pl) (hp : H p = none) : Stp PO G H pl G (upd H p u) pl :=
  ⟨Same.refl _, fun _ _ => rfl, fun b ob e _ => by rw [upd_ne (ne_of_none e hp)]; exact e, rfl, ok_upd o hp⟩
theorem Stp.new {p : Addr} {u : HO} (o : Ok PO G H pl) (hp : H p = none) : Stp PO G H pl (upd G p u) (upd H p u) pl := by
  have hg : G p = none := o.sub.free hp
  have o' := ok_upd (u := u) o hp
  refine ⟨same_new hg, fun a ha => upd_ne fun z => by subst z; exact ha.1 hp, fun b ob e _ => by rw [upd_ne (ne_of_none e hp)]; exact e, rfl, ⟨fun b ob e => ?_, fun v as e => ⟨(o'.pok v as e).1, fun a ha => ?_⟩⟩⟩
  · by_cases hb : b = p
    · subst hb; rw [upd_same] at e ⊢; exact e
    · rw [upd_ne hb] at e ⊢; exact o.sub b ob e
  · have := (PO.live v as H (o.pok v as e).1 a ha).1
    rw [upd_ne fun z => by subst z; exact this hp]
    exact (o.pok v as e).2 a ha
/-- tuples that stand are taken among the frozen things -/
theorem Stp.adopt {A : List Addr} (o : Ok PO G H pl) (n : ∀ a ∈ A, ∃ xs, H a = some (.tup xs)) : Stp PO G H pl (join G H A) H pl := by
  have out : ∀ a, Oth H a → a ∉ A := fun a ha h => by
    obtain ⟨xs, e⟩ := n a h
    exact ha.2 xs e
  refine ⟨fun b ob e => ?_, fun a ha => join_out (out a ha), fun b ob e _ => e, rfl, ⟨fun b ob e => ?_, fun v as e => ⟨(o.pok v as e).1, fun a ha => ?_⟩⟩⟩
  · by_cases hb : b ∈ A
    · rw [join_in hb]; exact o.sub b ob e
    · rw [join_out hb]; exact e
  · by_cases hb : b ∈ A
    · rw [join_in hb] at e; exact e
    · rw [join_out hb] at e; exact o.sub b ob e
  · rw [join_out (out a (PO.live v as H (o.pok v as e).1 a ha))]
    exact (o.pok v as e).2 a ha
/-- new things are frozen -/
theorem Stp.freeze {A : List Addr} (s : Stp PO G H pl G1 H1 pl1) (n : ∀ a ∈ A, H a = none ∧ G1 a = none ∧ a ∉ pads pl1) : Stp PO G H pl (join G1 H1 A) H1 pl1 := by
  refine ⟨fun b o e => ?_, fun a ha => ?_, s.h, s.pl, ⟨fun b o e => ?_, fun v as e => ⟨(s.ok.pok v as e).1, fun a ha => ?_⟩⟩⟩
  · have := s.g b o e
    rw [join_out fun hb => by rw [(n b hb).2.1] at this; cases this]
    exact this
  · rw [join_out fun hb => ha.1 (n a hb).1]
    exact s.gn a ha
  · by_cases hb : b ∈ A
    · rw [join_in hb] at e; exact e
    · rw [join_out hb] at e; exact s.ok.sub b o e
  · rw [join_out fun hb => (n a hb).2.2 (by rw [e]; exact ha)]
    exact (s.ok.pok v as e).2 a ha
end
/-! ## names and the heap -/
structure Rel (K : PySem.W.Frag) (PO : POk) (B G0 : Hp) (G H : Hp) (pl : PL) (σ : L2.St) (ρ : En) : Prop where
  ok : Ok PO G H pl
  gb : ∀ a, Oth B a → G a = G0 a
  on : ∀ a, B a ≠ none → H a ≠ none
  fr : ∀ b o, B b = some o → b ∉ pads pl → H b = some o
  len : σ.length = ρ.length
  ex : ∃ fp : Nat → List Addr, (∀ i vl, ρ[i]? = some (some vl) → ∃ v, σ[i]? = some (some v) ∧ RV K pl G H vl v (fp i)) ∧ (∀ i, (fp i).Nodup) ∧ (∀ i j a, a ∈ fp i → a ∈ fp j → i = j) ∧
    ∀ i a, a ∈ fp i → G a = none ∧ B a = none ∧ a ∉ pads pl ∧ H a ≠ none
section
variable {K : PySem.W.Frag} {PO : POk} {B G0 G H G1 H1 : Hp} {pl pl1 : PL} {σ : L2.St} {ρ : En}
/-- the owned places hold no tuples -/
theorem Rel.ex2 (r : Rel K PO B G0 G H pl σ ρ) : ∃ fp : Nat → List Addr, (∀ i vl, ρ[i]? = some (some vl) → ∃ v, σ[i]? = some (some v) ∧ RV K pl G H vl v (fp i)) ∧ (∀ i, (fp i).Nodup) ∧ (∀ i j a, a ∈ fp i → a ∈ fp j → i = j) ∧
    ∀ i a, a ∈ fp i → G a = none ∧ B a = none ∧ a ∉ pads pl ∧ Oth H a := by
  obtain ⟨fp, f1, f2, f3, f4⟩ := r.ex
  refine ⟨fun i => match ρ[i]? with | some (some _) => fp i | _ => [], fun i vl e => ?_, fun i => ?_, fun i j a h1 h2 => ?_, fun i a h1 => ?_⟩
  · obtain ⟨v, e1, e2⟩ := f1 i vl e
    refine ⟨v, e1, ?_⟩
    try dsimp only
    rw [e]
    exact e2
  · try dsimp only
    split
    · exact f2 _
    · exact List.nodup_nil
  · try dsimp only at h1 h2
    split at h1
    · split at h2
      · exact f3 i j a h1 h2
      · cases h2
    · cases h1
  · try dsimp only at h1
    split at h1
    · rename_i vl e
      obtain ⟨v, _, e2⟩ := f1 i vl e
      obtain ⟨q1, q2, q3, _⟩ := f4 i a h1
      exact ⟨q1, q2, q3, e2.oth a h1⟩
    · cases h1
theorem Rel.step (r : Rel K PO B G0 G H pl σ ρ) (s : Stp PO G H pl G1 H1 pl1) : Rel K PO B G0 G1 H1 pl1 σ ρ where
  ok := s.ok
  gb := fun a ha => (s.gn' r.ok fun h2 => ha.to fun ob e => r.fr a ob e h2).trans (r.gb a ha)
  on := fun a ha => s.on r.ok (r.on a ha)
  fr := fun b o e hb => by
    have h1 : b ∉ pads pl := by
      rw [← s.pl]; exact hb
    exact s.h b o (r.fr b o e h1) hb
  len := r.len
  ex := by
    obtain ⟨fp, f1, f2, f3, f4⟩ := r.ex2
    refine ⟨fp, fun i vl e => ?_, f2, f3, fun i a ha => ?_⟩
    · obtain ⟨v, e1, e2⟩ := f1 i vl e
      refine ⟨v, e1, e2.mono s.g s.le fun a ha o eo => ?_⟩
      obtain ⟨_, _, q, q'⟩ := f4 i a ha
      exact s.h a o eo (s.off q'.1 q)
    · obtain ⟨q1, q2, q3, q4⟩ := f4 i a ha
      exact ⟨(s.gn a q4).trans q1, q2, s.off q4.1 q3, s.on r.ok q4.1⟩
theorem Rel.var {i : Nat} {vl : Vl} (r : Rel K PO B G0 G H pl σ ρ) (e : ρ[i]? = some (some vl)) : ∃ v A, σ[i]? = some (some v) ∧ RV K pl G H vl v A ∧ A.Nodup ∧ ∀ a ∈ A, G a = none ∧ B a = none ∧ a ∉ pads pl ∧ H a ≠ none := by
  obtain ⟨fp, f1, f2, f3, f4⟩ := r.ex
  obtain ⟨v, e1, e2⟩ := f1 i vl e
  exact ⟨v, fp i, e1, e2, f2 i, f4 i⟩

/-- names taken otherwise -/
theorem Rel.re {σ' : L2.St} {ρ' : En} (r : Rel K PO B G0 G H pl σ ρ) (hl : σ'.length = ρ'.length) (f : Nat → Nat)
    (h : ∀ i vl, ρ'[i]? = some (some vl) → ρ[f i]? = some (some vl) ∧ ∀ v, σ[f i]? = some (some v) → σ'[i]? = some (some v))
    (inj : ∀ i j vl wl, ρ'[i]? = some (some vl) → ρ'[j]? = some (some wl) → f i = f j → i = j) : Rel K PO B G0 G H pl σ' ρ' where
  ok := r.ok
  gb := r.gb
  on := r.on
  fr := r.fr
  len := hl
  ex := by
    obtain ⟨fp, f1, f2, f3, f4⟩ := r.ex
    refine ⟨fun i => match ρ'[i]? with | some (some _) => fp (f i) | _ => [], fun i vl e => ?_, fun i => ?_, fun i j a h1 h2 => ?_, fun i a h1 => ?_⟩
    · obtain ⟨q1, q2⟩ := h i vl e
      obtain ⟨v, e1, e2⟩ := f1 _ vl q1
      refine ⟨v, q2 v e1, ?_⟩
      try dsimp only
      rw [e]
      exact e2
    · try dsimp only
      split
      · exact f2 _
      · exact List.nodup_nil
    · try dsimp only at h1 h2
      split at h1
      · rename_i e1
        split at h2
        · rename_i e2
          exact inj i j _ _ e1 e2 (f3 _ _ a h1 h2)
        · cases h2
      · cases h1
    · try dsimp only at h1
      split at h1
      · exact f4 _ a h1
      · cases h1
theorem get_set_some {α : Type} {l : List (Option α)} {i j : Nat} {o : Option α} {x : α} (h : (l.set i o)[j]? = some (some x)) : (i = j ∧ i < l.length ∧ o = some x) ∨ (i ≠ j ∧ l[j]? = some (some x)) := by
  by_cases e : i = j
  · subst e
    by_cases hi : i < l.length
    · rw [List.getElem?_set_self hi] at h
      exact .inl ⟨rfl, hi, Option.some.inj h⟩
    · rw [List.getElem?_eq_none (by rw [List.length_set]; omega)] at h
      cases h
  · rw [List.getElem?_set_ne e] at h
    exact .inr ⟨e, h⟩
theorem get_app_some {α : Type} {l : List (Option α)} {j : Nat} {o : Option α} {x : α} (h : (l ++ [o])[j]? = some (some x)) : (j < l.length ∧ l[j]? = some (some x)) ∨ (j = l.length ∧ o = some x) := by
  by_cases e : j < l.length
  · rw [List.getElem?_append_left e] at h
    exact .inl ⟨e, h⟩
  · have e2 : j < (l ++ [o]).length := (List.getElem?_eq_some_iff.mp h).1
    rw [List.length_append, List.length_singleton] at e2
    have e3 : j = l.length := by omega
    subst e3
    rw [List.getElem?_append_right (Nat.le_refl _), Nat.sub_self] at h
    exact .inr ⟨rfl, Option.some.inj h⟩
theorem Rel.lenT {v : V} {vl : Vl} (r : Rel K PO B G0 G H pl (σ ++ [some v]) (ρ ++ [some vl])) : σ.length = ρ.length := by
  have := r.len
  rw [List.length_append, List.length_append, List.length_singleton, List.length_singleton] at this
  omega
/-- a name is stored -/
theorem Rel.set {i : Nat} {vl : Vl} {v : V} (r : Rel K PO B G0 G H pl (σ ++ [some v]) (ρ ++ [some vl])) : Rel K PO B G0 G H pl (σ.set i (some v)) (ρ.set i (some vl)) := by
  have hl := r.lenT
  refine r.re (by rw [List.length_set, List.length_set, hl]) (fun j => if j = i then ρ.length else j) (fun j wl e => ?_) (fun j k _ _ e1 e2 e => ?_)
  · try dsimp only
    rcases get_set_some e with ⟨rfl, hi, e⟩ | ⟨hne, e⟩
    · cases e
      rw [if_pos rfl]
      refine ⟨by simp, fun w hw => ?_⟩
      rw [List.getElem?_append_right (by omega), hl, Nat.sub_self] at hw
      cases hw
      exact List.getElem?_set_self (by omega)
    · rw [if_neg (Ne.symm hne)]
      have hj := (List.getElem?_eq_some_iff.mp e).1
      refine ⟨by rw [List.getElem?_append_left hj]; exact e, fun w hw => ?_⟩
      rw [List.getElem?_append_left (by omega)] at hw
      rw [List.getElem?_set_ne hne]
      exact hw
  · try dsimp only at e
    have hj : j < ρ.length := by have := (List.getElem?_eq_some_iff.mp e1).1; rwa [List.length_set] at this
    have hk : k < ρ.length := by have := (List.getElem?_eq_some_iff.mp e2).1; rwa [List.length_set] at this
    split at e <;> split at e <;> omega
theorem Rel.drop {v : V} {vl : Vl} (r : Rel K PO B G0 G H pl (σ ++ [some v]) (ρ ++ [some vl])) : Rel K PO B G0 G H pl σ ρ := by
  have hl := r.lenT
  refine r.re hl (fun j => j) (fun j wl e => ?_) (fun j k _ _ _ _ e => e)
  have hj := (List.getElem?_eq_some_iff.mp e).1
  refine ⟨by rw [List.getElem?_append_left hj]; exact e, fun w hw => ?_⟩
  rw [List.getElem?_append_left (by omega)] at hw
  exact hw
theorem Rel.last {v : V} {vl : Vl} (r : Rel K PO B G0 G H pl (σ ++ [some v]) (ρ ++ [some vl])) : Rel K PO B G0 G H pl [some v] [some vl] := by
  have hl := r.lenT
  refine r.re rfl (fun j => ρ.length) (fun j wl e => ?_) (fun j k _ _ e1 e2 _ => ?_)
  · have hj := (List.getElem?_eq_some_iff.mp e).1
    have h0 : j = 0 := by simp at hj; omega
    subst h0
    cases e
    refine ⟨by simp, fun w hw => ?_⟩
    rw [List.getElem?_append_right (by omega), hl, Nat.sub_self] at hw
    exact hw
  · have hj := (List.getElem?_eq_some_iff.mp e1).1
    have hk := (List.getElem?_eq_some_iff.mp e2).1
    simp at hj hk
    omega
theorem Rel.forget (i : Nat) (r : Rel K PO B G0 G H pl σ ρ) : Rel K PO B G0 G H pl σ (ρ.set i none) := by
  refine r.re (by rw [List.length_set, r.len]) (fun j => j) (fun j wl e => ?_) (fun j k _ _ _ _ e => e)
  rcases get_set_some e with ⟨_, _, e⟩ | ⟨hne, e⟩
  · cases e
  · exact ⟨e, fun w hw => hw⟩
theorem Rel.clear (i : Nat) (r : Rel K PO B G0 G H pl σ ρ) : Rel K PO B G0 G H pl (σ.set i none) (ρ.set i none) := by
  refine r.re (by rw [List.length_set, List.length_set, r.len]) (fun j => j) (fun j wl e => ?_) (fun j k _ _ _ _ e => e)
  rcases get_set_some e with ⟨_, _, e⟩ | ⟨hne, e⟩
  · cases e
  · exact ⟨e, fun w hw => by rw [List.getElem?_set_ne hne]; exact hw⟩
def wipeN (ρ : En) : List Nat → En
  | [] => ρ
  | v :: vs => (wipeN ρ vs).set v none
theorem Rel.wipe (r : Rel K PO B G0 G H pl σ ρ) : ∀ vs : List Nat, Rel K PO B G0 G H pl (L2.wipe σ vs) (wipeN ρ vs)
  | [] => r
  | v :: vs => (Rel.wipe r vs).clear v
/-- what a name holds is taken from it -/
theorem Rel.move {i : Nat} {vl : Vl} {v : V} (r : Rel K PO B G0 G H pl σ ρ) (e : ρ[i]? = some (some vl)) (e' : σ[i]? = some (some v)) : Rel K PO B G0 G H pl (σ ++ [some v]) (ρ.set i none ++ [some vl]) := by
  have hl := r.len
  have hi := (List.getElem?_eq_some_iff.mp e).1
  refine r.re (by rw [List.length_append, List.length_append, List.length_set, hl]; rfl) (fun j => if j = ρ.length then i else j) (fun j wl q => ?_) (fun j k _ _ q1 q2 q => ?_)
  · try dsimp only
    rcases get_app_some q with ⟨hj, q0⟩ | ⟨hj, q0⟩
    · rw [List.length_set] at hj
      rw [if_neg (by omega)]
      rcases get_set_some q0 with ⟨_, _, q1⟩ | ⟨hne, q1⟩
      · cases q1
      · exact ⟨q1, fun w hw => by rw [List.getElem?_append_left (by omega)]; exact hw⟩
    · rw [List.length_set] at hj
      subst hj
      cases q0
      rw [if_pos rfl]
      refine ⟨e, fun w hw => ?_⟩
      rw [e'] at hw
      cases hw
      rw [List.getElem?_append_right (by omega), hl, Nat.sub_self]
      rfl
  · try dsimp only at q
    have key : ∀ j vl', (ρ.set i none ++ [some vl])[j]? = some (some vl') → j ≠ i := fun j vl' q1 z => by
      subst z
      rcases get_app_some q1 with ⟨hj, q⟩ | ⟨hj, q⟩
      · rcases get_set_some q with ⟨_, _, q⟩ | ⟨hne, q⟩
        · cases q
        · exact hne rfl
      · rw [List.length_set] at hj; omega
    have k1 := key j _ q1
    have k2 := key k _ q2
    split at q <;> split at q <;> omega
/-- a new thing stands beside the names -/
theorem Rel.push {vl : Vl} {v : V} {A : List Addr} (r : Rel K PO B G0 G H pl σ ρ) (s : Stp PO G H pl G1 H1 pl1) (h : RV K pl1 G1 H1 vl v A) (nd : A.Nodup) (n : ∀ a ∈ A, H a = none ∧ G1 a = none ∧ a ∉ pads pl1) :
    Rel K PO B G0 G1 H1 pl1 (σ ++ [some v]) (ρ ++ [some vl]) := by
  have r1 := r.step s
  refine ⟨r1.ok, r1.gb, r1.on, r1.fr, by rw [List.length_append, List.length_append, r.len]; rfl, ?_⟩
  obtain ⟨fp, f1, f2, f3, f4⟩ := r.ex2
  have hl := r.len
  have dj : ∀ i a, a ∈ fp i → a ∉ A := fun i a ha q => (f4 i a ha).2.2.2.1 (n a q).1
  refine ⟨fun j => if j = ρ.length then A else fp j, fun j vl' e => ?_, fun j => ?_, fun j k a h1 h2 => ?_, fun j a h1 => ?_⟩
  · try dsimp only
    rcases get_app_some e with ⟨hj, e0⟩ | ⟨hj, e0⟩
    · rw [if_neg (by omega)]
      obtain ⟨v', e1, e2⟩ := f1 j vl' e0
      refine ⟨v', by rw [List.getElem?_append_left (by omega)]; exact e1, e2.mono s.g s.le fun a ha o eo => ?_⟩
      obtain ⟨_, _, q, q'⟩ := f4 j a ha
      exact s.h a o eo (s.off q'.1 q)
    · subst hj
      cases e0
      rw [if_pos rfl]
      exact ⟨v, by rw [List.getElem?_append_right (by omega), hl, Nat.sub_self]; rfl, h⟩
  · try dsimp only
    split
    · exact nd
    · exact f2 _
  · try dsimp only at h1 h2
    split at h1
    · split at h2
      · omega
      · exact absurd h1 (dj _ a h2)
    · split at h2
      · exact absurd h2 (dj _ a h1)
      · exact f3 _ _ a h1 h2
  · try dsimp only at h1
    split at h1
    · obtain ⟨q1, q2, q3⟩ := n a h1
      refine ⟨q2, ?_, q3, h.live a h1⟩
      cases e : B a with
      | none => rfl
      | some o => exact absurd q1 (r.on a (by rw [e]; simp))
    · obtain ⟨q1, q2, q3, q4⟩ := f4 _ a h1
      exact ⟨(s.gn a q4).trans q1, q2, s.off q4.1 q3, s.on r.ok q4.1⟩
theorem Rel.pushS {d : PV} {v : V} (r : Rel K PO B G0 G H pl σ ρ) (h : Rs K pl G d v) : Rel K PO B G0 G H pl (σ ++ [some v]) (ρ ++ [some (.sh d)]) :=
  r.push (Stp.refl r.ok) ⟨rfl, h⟩ List.nodup_nil (fun a ha => nomatch ha)
/-- what a name owns is changed; what stands last may go into it -/
theorem Rel.mutT {i : Nat} {vl wl : Vl} {w : V} (r : Rel K PO B G0 G H pl (σ ++ [some w]) (ρ ++ [some wl])) (e : ρ[i]? = some (some vl)) :
    ∃ v A C, σ[i]? = some (some v) ∧ RV K pl G H vl v A ∧ RV K pl G H wl w C ∧ (A ++ C).Nodup ∧ (∀ a ∈ A ++ C, G a = none ∧ B a = none ∧ a ∉ pads pl ∧ H a ≠ none) ∧
      ∀ H' vl' A', (∀ b, b ∉ A → H' b = H b) → (∀ b ∈ A, H' b ≠ none) → RV K pl G H' vl' v A' → A'.Nodup → (∀ a ∈ A', a ∈ A ++ C) → Rel K PO B G0 G H' pl σ (ρ.set i (some vl')) := by
  have hl := r.lenT
  have hi := (List.getElem?_eq_some_iff.mp e).1
  obtain ⟨fp, f1, f2, f3, f4⟩ := r.ex
  obtain ⟨v, e1, e2⟩ := f1 i vl (by rw [List.getElem?_append_left hi]; exact e)
  rw [List.getElem?_append_left (by omega)] at e1
  obtain ⟨w', g1, g2⟩ := f1 ρ.length wl (by simp)
  rw [List.getElem?_append_right (by omega), hl, Nat.sub_self] at g1
  cases g1
  refine ⟨v, fp i, fp ρ.length, e1, e2, g2, ?_, ?_, ?_⟩
  · rw [List.nodup_append]
    refine ⟨f2 _, f2 _, fun a ha b hb z => ?_⟩
    subst z
    have := f3 _ _ a ha hb
    omega
  · intro a ha
    rcases List.mem_append.mp ha with ha | ha
    · exact f4 _ a ha
    · exact f4 _ a ha
  · intro H' vl' A' k1 k2 hv nd sub
    have keepA : ∀ a, B a ≠ none ∨ G a ≠ none ∨ a ∈ pads pl → a ∉ fp i := fun a ha q => by
      obtain ⟨q1, q2, q3, q4⟩ := f4 i a q
      rcases ha with h | h | h
      · exact h q2
      · exact h q1
      · exact q3 h
    refine ⟨⟨fun b o eo => ?_, fun v' as ep => ⟨PO.ext _ _ _ _ (r.ok.pok v' as ep).1 fun a ha => k1 a (keepA a (.inr (.inr (by rw [ep]; exact ha)))), (r.ok.pok v' as ep).2⟩⟩, r.gb, fun a ha => ?_, fun b o eo hb => ?_, by rw [List.length_set, hl], ?_⟩
    · rw [k1 b (keepA b (.inr (.inl (by rw [eo]; simp))))]
      exact r.ok.sub b o eo
    · rw [k1 a (keepA a (.inl ha))]
      exact r.on a ha
    · rw [k1 b (keepA b (.inl (by rw [eo]; simp)))]
      exact r.fr b o eo hb
    · have liveH' : ∀ j a, a ∈ fp j → H' a ≠ none := fun j a ha => by
        by_cases q : a ∈ fp i
        · exact k2 a q
        · rw [k1 a q]; exact (f4 j a ha).2.2.2
      refine ⟨fun j => if j = i then A' else if j = ρ.length then [] else fp j, fun j vl2 q => ?_, fun j => ?_, fun j k a h1 h2 => ?_, fun j a h1 => ?_⟩
      · try dsimp only
        rcases get_set_some q with ⟨rfl, _, q⟩ | ⟨hne, q⟩
        · cases q
          rw [if_pos rfl]
          exact ⟨v, e1, hv⟩
        · have hj := (List.getElem?_eq_some_iff.mp q).1
          rw [if_neg (Ne.symm hne), if_neg (by omega)]
          obtain ⟨v2, p1, p2⟩ := f1 j vl2 (by rw [List.getElem?_append_left hj]; exact q)
          rw [List.getElem?_append_left (by omega)] at p1
          refine ⟨v2, p1, p2.mono (Same.refl _) (plLe.refl _) fun a ha o eo => ?_⟩
          rw [k1 a fun z => hne (f3 _ _ a z ha)]
          exact eo
      · try dsimp only
        split
        · exact nd
        · split
          · exact List.nodup_nil
          · exact f2 _
      · try dsimp only at h1 h2
        have cr : ∀ j, j ≠ i → j ≠ ρ.length → a ∈ fp j → a ∉ A' := fun j n1 n2 q z => by
          rcases List.mem_append.mp (sub a z) with z | z
          · exact n1 (f3 _ _ a q z)
          · exact n2 (f3 _ _ a q z)
        split at h1
        · split at h2
          · omega
          · split at h2
            · cases h2
            · exact absurd h1 (cr _ (by assumption) (by assumption) h2)
        · split at h1
          · cases h1
          · split at h2
            · exact absurd h2 (cr _ (by assumption) (by assumption) h1)
            · split at h2
              · cases h2
              · exact f3 _ _ a h1 h2
      · try dsimp only at h1
        split at h1
        · have hm := sub a h1
          rcases List.mem_append.mp hm with q | q
          · obtain ⟨q1, q2, q3, q4⟩ := f4 _ a q
            exact ⟨q1, q2, q3, liveH' _ a q⟩
          · obtain ⟨q1, q2, q3, q4⟩ := f4 _ a q
            exact ⟨q1, q2, q3, liveH' _ a q⟩
        · split at h1
          · cases h1
          · obtain ⟨q1, q2, q3, q4⟩ := f4 _ a h1
            exact ⟨q1, q2, q3, liveH' _ a h1⟩
theorem Rel.mut {i : Nat} {vl : Vl} (r : Rel K PO B G0 G H pl σ ρ) (e : ρ[i]? = some (some vl)) :
    ∃ v A, σ[i]? = some (some v) ∧ RV K pl G H vl v A ∧ A.Nodup ∧ (∀ a ∈ A, G a = none ∧ B a = none ∧ a ∉ pads pl ∧ H a ≠ none) ∧
      ∀ H' vl' A', (∀ b, b ∉ A → H' b = H b) → (∀ b ∈ A, H' b ≠ none) → RV K pl G H' vl' v A' → A'.Nodup → (∀ a ∈ A', a ∈ A) → Rel K PO B G0 G H' pl σ (ρ.set i (some vl')) := by
  have r2 := r.pushS (d := .non) (v := .non) Rs.non
  obtain ⟨v, A, C, h1, h2, h3, h4, h5, h6⟩ := r2.mutT e
  exact ⟨v, A, h1, h2, (List.nodup_append.mp h4).1, fun a ha => h5 a (List.mem_append_left _ ha), fun H' vl' A' k1 k2 k3 k4 k5 => h6 H' vl' A' k1 k2 k3 k4 fun a ha => List.mem_append_left _ (k5 a ha)⟩
/-- what a name owns is frozen -/
theorem Rel.frz {i : Nat} {vl : Vl} (r : Rel K PO B G0 G H pl σ ρ) (e : ρ[i]? = some (some vl)) : ∃ G', Same G G' ∧ Rel K PO B G0 G' H pl σ (ρ.set i (some (.sh vl.frz))) := by
  obtain ⟨fp, f1, f2, f3, f4⟩ := r.ex
  obtain ⟨v, e1, e2⟩ := f1 i vl e
  have s : Same G (join G H (fp i)) := fun b o eo => by
    rw [join_out fun hb => by rw [(f4 i b hb).1] at eo; cases eo]
    exact eo
  refine ⟨join G H (fp i), s, ⟨⟨fun b o eo => ?_, fun v' as ep => ⟨(r.ok.pok v' as ep).1, fun a ha => ?_⟩⟩, fun a ha => ?_, r.on, r.fr, by rw [List.length_set, r.len], ?_⟩⟩
  · by_cases hb : b ∈ fp i
    · rw [join_in hb] at eo; exact eo
    · rw [join_out hb] at eo; exact r.ok.sub b o eo
  · rw [join_out fun hb => (f4 i a hb).2.2.1 (by rw [ep]; exact ha)]
    exact (r.ok.pok v' as ep).2 a ha
  · rw [join_out fun hb => ha.1 (f4 i a hb).2.1]
    exact r.gb a ha
  · refine ⟨fun j => if j = i then [] else fp j, fun j wl q => ?_, fun j => ?_, fun j k a h1 h2 => ?_, fun j a h1 => ?_⟩
    · try dsimp only
      rcases get_set_some q with ⟨rfl, _, q⟩ | ⟨hne, q⟩
      · cases q
        rw [if_pos rfl]
        exact ⟨v, e1, rfl, e2.freeze fun a ha => (f4 _ a ha).1⟩
      · rw [if_neg (Ne.symm hne)]
        obtain ⟨v2, p1, p2⟩ := f1 j wl q
        exact ⟨v2, p1, p2.mono s (plLe.refl _) fun a ha o eo => eo⟩
    · try dsimp only
      split
      · exact List.nodup_nil
      · exact f2 _
    · try dsimp only at h1 h2
      split at h1
      · cases h1
      · split at h2
        · cases h2
        · exact f3 _ _ a h1 h2
    · try dsimp only at h1
      split at h1
      · cases h1
      · rename_i hji
        obtain ⟨q1, q2, q3, q4⟩ := f4 _ a h1
        refine ⟨?_, q2, q3, q4⟩
        rw [join_out fun z => hji (f3 _ _ a h1 z)]
        exact q1
end

/-! ## readings without a heap -/
/-- how a value d is had at v -/
structure RK (α : Type) where
  R : PySem.W.Frag → PL → Hp → Hp → α → V → Prop
  st : ∀ {K : PySem.W.Frag} {PO : POk} {pl pl' : PL} {G H G' H' : Hp} {d : α} {v : V}, Ok PO G H pl → Stp PO G H pl G' H' pl' → R K pl G H d v → R K pl' G' H' d v
/-- frozen -/
abbrev rS : RK PV := ⟨fun K pl G _ d v => Rs K pl G d v, fun _ s h => Rs.mono s.g s.le _ _ h⟩
/-- a list, read now -/
abbrev rL : RK (List PV) := ⟨fun K pl G H ds v => ∃ a xs, v = .ref a ∧ H a = some (.lst xs) ∧ a ∉ pads pl ∧ Rl K pl G ds xs ∧ ds.length ≤ 16777216, fun _ s h => by
  obtain ⟨a, xs, rfl, h1, h2, h3, h4⟩ := h
  exact ⟨a, xs, rfl, s.h a _ h1 (s.off (by rw [h1]; simp) h2), s.off (by rw [h1]; simp) h2, Rl.mono s.g s.le _ _ h3, h4⟩⟩
/-- a dict of ints and texts, read now -/
abbrev rD : RK (List (Key × PV)) := ⟨fun K pl G H ds v => ∃ a xs, v = .ref a ∧ H a = some (.dK xs) ∧ a ∉ pads pl ∧ Rk K pl G ds xs ∧ ds.length ≤ 16777216, fun _ s h => by
  obtain ⟨a, xs, rfl, h1, h2, h3, h4⟩ := h
  exact ⟨a, xs, rfl, s.h a _ h1 (s.off (by rw [h1]; simp) h2), s.off (by rw [h1]; simp) h2, Rk.mono s.g s.le _ _ h3, h4⟩⟩
/-- a dict of tuples, read now -/
abbrev rDT : RK (List (List Key × PV)) := ⟨fun K pl G H ds v => ∃ a xs, v = .ref a ∧ H a = some (.dT xs) ∧ a ∉ pads pl ∧ Rt K pl G ds xs ∧ ds.length ≤ 16777216, fun _ s h => by
  obtain ⟨a, xs, rfl, h1, h2, h3, h4⟩ := h
  exact ⟨a, xs, rfl, s.h a _ h1 (s.off (by rw [h1]; simp) h2), s.off (by rw [h1]; simp) h2, Rt.mono s.g s.le _ _ h3, h4⟩⟩
/-- a list of lists, read now (the outer one) -/
abbrev rLL : RK (List (List PV)) := ⟨fun K pl G H dss v => ∃ (a : Addr) (as : List Addr), v = .ref a ∧ H a = some (.lst (as.map V.ref)) ∧ a ∉ pads pl ∧ as.length = dss.length ∧
    ∀ (i : Nat) (b : Addr) (ds : List PV), as[i]? = some b → dss[i]? = some ds → ∃ xs, H b = some (.lst xs) ∧ b ∉ pads pl ∧ Rl K pl G ds xs ∧ ds.length ≤ 16777216, fun _ s h => by
  obtain ⟨a, as, rfl, h1, h2, h3, h4⟩ := h
  refine ⟨a, as, rfl, s.h a _ h1 (s.off (by rw [h1]; simp) h2), s.off (by rw [h1]; simp) h2, h3, fun i b ds e1 e2 => ?_⟩
  obtain ⟨xs, q1, q2, q3, q4⟩ := h4 i b ds e1 e2
  exact ⟨xs, s.h b _ q1 (s.off (by rw [q1]; simp) q2), s.off (by rw [q1]; simp) q2, Rl.mono s.g s.le _ _ q3, q4⟩⟩
abbrev PX (α : Type) := En → (α → Prop) → Prop
def SX {α : Type} (R : RK α) (K : PySem.W.Frag) (PO : POk) (t : TE) (p : PX α) : Prop :=
  ∀ {B G0 G H : Hp} {pl : PL} {σ : L2.St} {ρ : En} {Q : VK} {post : α → Prop}, Rel K PO B G0 G H pl σ ρ → p ρ post → (∀ v d G' H' pl', Stp PO G H pl G' H' pl' → R.R K pl' G' H' d v → post d → Q v H') → t σ H Q
def ST (K : PySem.W.Frag) (PO : POk) (t : TT) (p : PX Bool) : Prop :=
  ∀ {B G0 G H : Hp} {pl : PL} {σ : L2.St} {ρ : En} {Q : Bool → Hp → Prop} {post : Bool → Prop}, Rel K PO B G0 G H pl σ ρ → p ρ post → (∀ b G' H' pl', Stp PO G H pl G' H' pl' → post b → Q b H') → t σ H Q
def SA (K : PySem.W.Frag) (PO : POk) (t : TA) (p : PX (List PV)) : Prop :=
  ∀ {B G0 G H : Hp} {pl : PL} {σ : L2.St} {ρ : En} {Q : List V → Hp → Prop} {post : List PV → Prop}, Rel K PO B G0 G H pl σ ρ → p ρ post → (∀ vs ds G' H' pl', Stp PO G H pl G' H' pl' → Rl K pl' G' ds vs → post ds → Q vs H') → t σ H Q
/-- a new thing, owned by nobody yet -/
def SO (K : PySem.W.Frag) (PO : POk) (t : TE) (p : PX Vl) : Prop :=
  ∀ {B G0 G H : Hp} {pl : PL} {σ : L2.St} {ρ : En} {Q : VK} {post : Vl → Prop}, Rel K PO B G0 G H pl σ ρ → p ρ post →
    (∀ v vl A G' H' pl', Stp PO G H pl G' H' pl' → RV K pl' G' H' vl v A → A.Nodup → (∀ a ∈ A, H a = none ∧ G' a = none ∧ a ∉ pads pl') → post vl → Q v H') → t σ H Q
/-- what a statement stores or gives back -/
def SM (K : PySem.W.Frag) (PO : POk) (t : TE) (p : En → (Vl → En → Prop) → Prop) : Prop :=
  ∀ {B G0 G H : Hp} {pl : PL} {σ : L2.St} {ρ : En} {Q : VK} {post : Vl → En → Prop}, Rel K PO B G0 G H pl σ ρ → p ρ post →
    (∀ v vl ρ' G' H' pl', Same G G' → plLe pl pl' → Rel K PO B G0 G' H' pl' (σ ++ [some v]) (ρ' ++ [some vl]) → post vl ρ' → Q v H') → t σ H Q
structure QX {α : Type} (R : RK α) (K : PySem.W.Frag) (PO : POk) (X : Cx) (e : Expr) (t : TE) (p : PX α) : Prop where
  pe : PE X e t
  sd : SX R K PO t p
structure QT (K : PySem.W.Frag) (PO : POk) (X : Cx) (e : Expr) (t : TT) (p : PX Bool) : Prop where
  pe : PT X e t
  sd : ST K PO t p
structure QW (K : PySem.W.Frag) (PO : POk) (X : Cx) (e : Expr) (t : TT) (p : PX Bool) : Prop where
  pe : PW X e t
  sd : ST K PO t p
structure QA (K : PySem.W.Frag) (PO : POk) (X : Cx) (e : List Expr) (t : TA) (p : PX (List PV)) : Prop where
  pe : PA X e t
  sd : SA K PO t p
structure QO (K : PySem.W.Frag) (PO : POk) (X : Cx) (e : Expr) (t : TE) (p : PX Vl) : Prop where
  pe : PE X e t
  sd : SO K PO t p
structure QM (K : PySem.W.Frag) (PO : POk) (X : Cx) (e : Expr) (t : TE) (p : En → (Vl → En → Prop) → Prop) : Prop where
  pe : PE X e t
  sd : SM K PO t p
section
variable {K : PySem.W.Frag} {PO : POk} {X : Cx} {α β γ : Type}
/-! ### how one is had as another -/
def pOf (p : PX PV) : PX (List PV) := fun ρ post => p ρ fun d => ∃ ds, d = .lst ds ∧ post ds
theorem ql_of {e : Expr} {t : TE} {p : PX PV} (h : QX rS K PO X e t p) : QX rL K PO X e t (pOf p) := by
  refine ⟨h.pe, fun r hp hq => h.sd r hp fun v d G' H' pl' s hd hpost => ?_⟩
  obtain ⟨ds, rfl, hpost⟩ := hpost
  obtain ⟨a, xs, rfl, h1, h2, h3⟩ := rs_lst (K := K) (pl := pl') (G := G') hd
  exact hq _ ds G' H' pl' s ⟨a, xs, rfl, s.ok.sub _ _ h1, fun q => (by rw [s.ok.free a q] at h1; cases h1), h2, h3⟩ hpost
def pOfO (p : PX Vl) : PX (List PV) := fun ρ post => p ρ fun d => ∃ ds, d = .ol ds ∧ post ds
theorem ql_new {e : Expr} {t : TE} {p : PX Vl} (h : QO K PO X e t p) : QX rL K PO X e t (pOfO p) := by
  refine ⟨h.pe, fun r hp hq => h.sd r hp fun v d A G' H' pl' s hd nd n hpost => ?_⟩
  obtain ⟨ds, rfl, hpost⟩ := hpost
  obtain ⟨a, xs, rfl, rfl, h1, h2, h3⟩ := hd
  exact hq _ ds G' H' pl' s ⟨a, xs, rfl, h1, (n a (by simp)).2.2, h2, h3⟩ hpost
/-- a new thing is frozen -/
def pFz (p : PX Vl) : PX PV := fun ρ post => p ρ fun vl => post vl.frz
theorem qe_new {e : Expr} {t : TE} {p : PX Vl} (h : QO K PO X e t p) : QX rS K PO X e t (pFz p) := by
  refine ⟨h.pe, fun r hp hq => h.sd r hp fun v vl A G' H' pl' s hd nd n hpost => ?_⟩
  exact hq v vl.frz _ H' pl' (s.freeze n) (hd.freeze fun a ha => (n a ha).2.1) hpost
def pSh (p : PX PV) : En → (Vl → En → Prop) → Prop := fun ρ post => p ρ fun d => post (.sh d) ρ
theorem qm_of {e : Expr} {t : TE} {p : PX PV} (h : QX rS K PO X e t p) : QM K PO X e t (pSh p) := by
  refine ⟨h.pe, fun r hp hq => h.sd r hp fun v d G' H' pl' s hd hpost => ?_⟩
  exact hq v (.sh d) _ G' H' pl' s.g s.le ((r.step s).pushS hd) hpost
def pNw (p : PX Vl) : En → (Vl → En → Prop) → Prop := fun ρ post => p ρ fun d => post d ρ
theorem qm_new {e : Expr} {t : TE} {p : PX Vl} (h : QO K PO X e t p) : QM K PO X e t (pNw p) := by
  refine ⟨h.pe, fun r hp hq => h.sd r hp fun v vl A G' H' pl' s hd nd n hpost => ?_⟩
  exact hq v vl _ G' H' pl' s.g s.le (r.push s hd nd n) hpost
def pSO (p : PX PV) : PX Vl := fun ρ post => p ρ fun d => post (.sh d)
theorem qo_of {e : Expr} {t : TE} {p : PX PV} (h : QX rS K PO X e t p) : QO K PO X e t (pSO p) := by
  refine ⟨h.pe, fun r hp hq => h.sd r hp fun v d G' H' pl' s hd hpost => ?_⟩
  exact hq v (.sh d) [] G' H' pl' s ⟨rfl, hd⟩ List.nodup_nil (fun a ha => nomatch ha) hpost
/-! ### names -/
def pVar (i : Nat) : PX PV := fun ρ post => ∃ d, ρ[i]? = some (some (.sh d)) ∧ post d
theorem qv (i : Nat) {x : Str} {pos : Pos} (hN : X.N[i]? = some x := by rfl) (hv : Vis X.env.scope x := by first | exact Or.inl rfl | exact Or.inr (Or.inl rfl) | exact Or.inr (Or.inr rfl)) (hd : (x == ("__debug__" : Str)) = false := by decide) (hcd : (x == ("__classdict__" : Str)) = false := by decide) :
    QX rS K PO X (.Name x pos) (tVar i) (pVar i) := by
  refine ⟨pv i hN hv hd hcd, fun {B G0 G H pl σ ρ Q post} r hp hq => ?_⟩
  obtain ⟨d, e, hpost⟩ := hp
  obtain ⟨v, A, e1, e2, _⟩ := r.var e
  exact ⟨v, e1, hq v d G H pl (Stp.refl r.ok) e2.2 hpost⟩
inductive AsL : Vl → List PV → Prop
  | ol (ds : List PV) : AsL (.ol ds) ds
  | sh (ds : List PV) : AsL (.sh (.lst ds)) ds
  | «at» (a : Addr) (ds : List PV) : AsL (.«at» (.obj a) a ds) ds
def pVarL (i : Nat) : PX (List PV) := fun ρ post => ∃ vl ds, ρ[i]? = some (some vl) ∧ AsL vl ds ∧ post ds
theorem qvl (i : Nat) {x : Str} {pos : Pos} (hN : X.N[i]? = some x := by rfl) (hv : Vis X.env.scope x := by first | exact Or.inl rfl | exact Or.inr (Or.inl rfl) | exact Or.inr (Or.inr rfl)) (hd : (x == ("__debug__" : Str)) = false := by decide) (hcd : (x == ("__classdict__" : Str)) = false := by decide) :
    QX rL K PO X (.Name x pos) (tVar i) (pVarL i) := by
  refine ⟨pv i hN hv hd hcd, fun {B G0 G H pl σ ρ Q post} r hp hq => ?_⟩
  obtain ⟨vl, ds, e, al, hpost⟩ := hp
  obtain ⟨v, A, e1, e2, _, n⟩ := r.var e
  refine ⟨v, e1, hq v ds G H pl (Stp.refl r.ok) ?_ hpost⟩
  cases al with
  | ol =>
    obtain ⟨a, xs, rfl, rfl, h1, h2, h3⟩ := e2
    exact ⟨a, xs, rfl, h1, (n a (by simp)).2.2.1, h2, h3⟩
  | sh =>
    obtain ⟨a, xs, rfl, h1, h2, h3⟩ := rs_lst e2.2
    exact ⟨a, xs, rfl, r.ok.sub _ _ h1, fun q => (by rw [r.ok.free a q] at h1; cases h1), h2, h3⟩
  | «at» a =>
    obtain ⟨xs, rfl, h0, h1, h2, h3⟩ := e2
    unfold Rs at h0
    exact ⟨a, xs, h0, h1, (n a (by simp)).2.2.1, h2, h3⟩
inductive AsLL : Vl → List (List PV) → Prop
  | oo (dss : List (List PV)) : AsLL (.oo dss) dss
def pVarLL (i : Nat) : PX (List (List PV)) := fun ρ post => ∃ dss, ρ[i]? = some (some (.oo dss)) ∧ post dss
theorem qvll (i : Nat) {x : Str} {pos : Pos} (hN : X.N[i]? = some x := by rfl) (hv : Vis X.env.scope x := by first | exact Or.inl rfl | exact Or.inr (Or.inl rfl) | exact Or.inr (Or.inr rfl)) (hd : (x == ("__debug__" : Str)) = false := by decide) (hcd : (x == ("__classdict__" : Str)) = false := by decide) :
    QX rLL K PO X (.Name x pos) (tVar i) (pVarLL i) := by
  refine ⟨pv i hN hv hd hcd, fun {B G0 G H pl σ ρ Q post} r hp hq => ?_⟩
  obtain ⟨dss, e, hpost⟩ := hp
  obtain ⟨v, A, e1, e2, _, n⟩ := r.var e
  refine ⟨v, e1, hq v dss G H pl (Stp.refl r.ok) ?_ hpost⟩
  obtain ⟨a, as, rfl, rfl, h1, h2, h2', h3⟩ := e2
  refine ⟨a, as, rfl, h1, (n a (by simp)).2.2.1, h2, fun i b ds q1 q2 => ?_⟩
  obtain ⟨xs, w1, w2, w3⟩ := h3 i b ds q1 q2
  exact ⟨xs, w1, (n b (List.mem_cons_of_mem _ (List.mem_of_getElem? q1))).2.2.1, w2, w3⟩
inductive AsD : Vl → List (Key × PV) → Prop
  | oK (ds : List (Key × PV)) : AsD (.oK ds) ds
def pVarD (i : Nat) : PX (List (Key × PV)) := fun ρ post => ∃ vl ds, ρ[i]? = some (some vl) ∧ (vl = .oK ds ∨ vl = .sh (.dK ds)) ∧ post ds
/-- what is returned, or given on, is taken from its name -/
def pMov (i : Nat) : En → (Vl → En → Prop) → Prop := fun ρ post => ∃ vl, ρ[i]? = some (some vl) ∧ post vl (ρ.set i none)
theorem qmov (i : Nat) {x : Str} {pos : Pos} (hN : X.N[i]? = some x := by rfl) (hv : Vis X.env.scope x := by first | exact Or.inl rfl | exact Or.inr (Or.inl rfl) | exact Or.inr (Or.inr rfl)) (hd : (x == ("__debug__" : Str)) = false := by decide) (hcd : (x == ("__classdict__" : Str)) = false := by decide) :
    QM K PO X (.Name x pos) (tVar i) (pMov i) := by
  refine ⟨pv i hN hv hd hcd, fun {B G0 G H pl σ ρ Q post} r hp hq => ?_⟩
  obtain ⟨vl, e, hpost⟩ := hp
  obtain ⟨v, A, e1, e2, _⟩ := r.var e
  exact ⟨v, e1, hq v vl _ G H pl (Same.refl _) (plLe.refl _) (r.move e e1) hpost⟩
def pC (d : PV) : PX PV := fun _ post => post d
theorem sx_c {d : PV} {v : V} (h : ∀ pl G, Rs K pl G d v) : SX rS K PO (tC v) (pC d) := fun {B G0 G H pl σ ρ Q post} r hp hq => hq v d G H pl (Stp.refl r.ok) (h _ _) hp
theorem qe_int {i : Int} {j pos} : QX rS K PO X (.Constant (.int i) j pos) (tC (.int i)) (pC (.int i)) := ⟨pe_int, sx_c fun _ _ => Rs.int⟩
theorem qe_bl {b : Bool} {j pos} : QX rS K PO X (.Constant (.bool b) j pos) (tC (.bl b)) (pC (.bl b)) := ⟨pe_bl, sx_c fun _ _ => Rs.bl⟩
theorem qe_non {j pos} : QX rS K PO X (.Constant .none j pos) (tC .non) (pC .non) := ⟨pe_non, sx_c fun _ _ => Rs.non⟩
theorem qe_str {x : Str} {j pos} (l : List Nat) (h : x = S l) (hl : l.length ≤ 16777216) : QX rS K PO X (.Constant (.str x) j pos) (tC (vS l)) (pC (.str l)) := ⟨pe_strL l h, sx_c fun _ _ => Rs.str hl⟩
theorem qe_glob {x : Str} {v : V} {u : Value} {pos : Pos} (d : PV) (hr : ∀ K pl G, Rs K pl G d v) (hg : Gl X x) (hm : X.mg x = some u) (r : RelV v u) (hd : (x == ("__debug__" : Str)) = false := by decide) : QX rS K PO X (.Name x pos) (tC v) (pC d) := ⟨pe_glob hg hm r hd, sx_c fun _ _ => hr _ _ _⟩
theorem qe_ty {x : Str} {n : String} {pos : Pos} (hg : Gl X x) (hm : X.mg x = none) (hv : bootBuiltins x = some (.type n)) (hn : x ≠ "__name__" := by decide) (hd : (x == ("__debug__" : Str)) = false := by decide) : QX rS K PO X (.Name x pos) (tC (.ty n)) (pC (.ty n)) :=
  ⟨pe_bltn hg hm hv rfl hn hd, sx_c fun _ _ => Rs.ty⟩
/-! ### operators -/
def S2 (Ra : RK α) (Rb : RK β) (Rc : RK γ) (K : PySem.W.Frag) (PO : POk) (r : R2) (F : α → β → (γ → Prop) → Prop) : Prop :=
  ∀ {G H : Hp} {pl : PL} {x y : V} {d : α} {e : β} {Q : VK} {post : γ → Prop}, Ok PO G H pl → Ra.R K pl G H d x → Rb.R K pl G H e y → F d e post → (∀ v c G' H' pl', Stp PO G H pl G' H' pl' → Rc.R K pl' G' H' c v → post c → Q v H') → r x y H Q
def S2O (Ra : RK α) (Rb : RK β) (K : PySem.W.Frag) (PO : POk) (r : R2) (F : α → β → (Vl → Prop) → Prop) : Prop :=
  ∀ {G H : Hp} {pl : PL} {x y : V} {d : α} {e : β} {Q : VK} {post : Vl → Prop}, Ok PO G H pl → Ra.R K pl G H d x → Rb.R K pl G H e y → F d e post →
    (∀ v vl A G' H' pl', Stp PO G H pl G' H' pl' → RV K pl' G' H' vl v A → A.Nodup → (∀ a ∈ A, H a = none ∧ G' a = none ∧ a ∉ pads pl') → post vl → Q v H') → r x y H Q
def pOp (F : α → β → (γ → Prop) → Prop) (pa : PX α) (pb : PX β) : PX γ := fun ρ post => pa ρ fun x => pb ρ fun y => F x y post
theorem fresh_on {G H G1 H1 : Hp} {pl pl1 : PL} {a : Addr} (o : Ok PO G H pl) (s : Stp PO G H pl G1 H1 pl1) (h : H1 a = none) : H a = none := by
  cases e : H a with
  | none => rfl
  | some ob => exact absurd h (s.on o (by rw [e]; simp))
theorem sx_op {Ra : RK α} {Rb : RK β} {Rc : RK γ} {r : R2} {F : α → β → (γ → Prop) → Prop} {ta tb : TE} {pa : PX α} {pb : PX β} (ho : S2 Ra Rb Rc K PO r F) (ha : SX Ra K PO ta pa) (hb : SX Rb K PO tb pb) : SX Rc K PO (tOp r ta tb) (pOp F pa pb) :=
  fun r1 hp hq => ha r1 hp fun x d G1 H1 pl1 s1 hd hp1 => hb (r1.step s1) hp1 fun y e G2 H2 pl2 s2 he hp2 => ho s2.ok (Ra.st s1.ok s2 hd) he hp2 fun v c G3 H3 pl3 s3 hc hp3 => hq v c G3 H3 pl3 ((s1.trans r1.ok s2).trans r1.ok s3) hc hp3
theorem so_op {Ra : RK α} {Rb : RK β} {r : R2} {F : α → β → (Vl → Prop) → Prop} {ta tb : TE} {pa : PX α} {pb : PX β} (ho : S2O Ra Rb K PO r F) (ha : SX Ra K PO ta pa) (hb : SX Rb K PO tb pb) : SO K PO (tOp r ta tb) (pOp F pa pb) :=
  fun r1 hp hq => ha r1 hp fun x d G1 H1 pl1 s1 hd hp1 => hb (r1.step s1) hp1 fun y e G2 H2 pl2 s2 he hp2 => ho s2.ok (Ra.st s1.ok s2 hd) he hp2 fun v vl A G3 H3 pl3 s3 hc nd n hp3 =>
    hq v vl A G3 H3 pl3 ((s1.trans r1.ok s2).trans r1.ok s3) hc nd (fun a ha => ⟨fresh_on r1.ok (s1.trans r1.ok s2) (n a ha).1, (n a ha).2⟩) hp3
theorem qe_op {Ra : RK α} {Rb : RK β} {Rc : RK γ} {op : Operator} {r : R2} {F : α → β → (γ → Prop) → Prop} {a b : Expr} {pos : Pos} {ta tb : TE} {pa : PX α} {pb : PX β} (hr : OpR X (binaryOp op) r) (ho : S2 Ra Rb Rc K PO r F) (ha : QX Ra K PO X a ta pa) (hb : QX Rb K PO X b tb pb) :
    QX Rc K PO X (.BinOp a op b pos) (tOp r ta tb) (pOp F pa pb) := ⟨pe_op hr ha.pe hb.pe, sx_op ho ha.sd hb.sd⟩
theorem qo_op {Ra : RK α} {Rb : RK β} {op : Operator} {r : R2} {F : α → β → (Vl → Prop) → Prop} {a b : Expr} {pos : Pos} {ta tb : TE} {pa : PX α} {pb : PX β} (hr : OpR X (binaryOp op) r) (ho : S2O Ra Rb K PO r F) (ha : QX Ra K PO X a ta pa) (hb : QX Rb K PO X b tb pb) :
    QO K PO X (.BinOp a op b pos) (tOp r ta tb) (pOp F pa pb) := ⟨pe_op hr ha.pe hb.pe, so_op ho ha.sd hb.sd⟩
theorem qe_cmp {Ra : RK α} {Rb : RK β} {Rc : RK γ} {op : CmpOp} {r : R2} {F : α → β → (γ → Prop) → Prop} {a b : Expr} {pos : Pos} {ta tb : TE} {pa : PX α} {pb : PX β} (hr : OpR X (compareOp op) r) (ho : S2 Ra Rb Rc K PO r F) (ha : QX Ra K PO X a ta pa) (hb : QX Rb K PO X b tb pb) (hm : behindInMarks op b = false) :
    QX Rc K PO X (.Compare a [op] [b] pos) (tOp r ta tb) (pOp F pa pb) := ⟨pe_cmpR hr ha.pe hb.pe hm, sx_op ho ha.sd hb.sd⟩
def pB (p : PX PV) : PX Bool := fun ρ post => p ρ fun d => ∃ k, d = .bl k ∧ post k
theorem st_test {t : TE} {p : PX PV} (h : SX rS K PO t p) : ST K PO (tTest t) (pB p) := fun r hp hq => h r hp fun v d G' H' pl' s hd hp1 => by
  obtain ⟨k, rfl, hp2⟩ := hp1
  exact ⟨k, rs_bl (K := K) (pl := pl') (G := G') hd, hq k G' H' pl' s hp2⟩
theorem st_b {t : TE} {p : PX PV} (h : SX rS K PO t p) : ST K PO (tB t) (pB p) := fun r hp hq => h r hp fun v d G' H' pl' s hd hp1 => by
  obtain ⟨k, rfl, hp2⟩ := hp1
  exact ⟨k, rs_bl (K := K) (pl := pl') (G := G') hd, hq k G' H' pl' s hp2⟩
theorem qt_cmp {Ra : RK α} {Rb : RK β} {op : CmpOp} {r : R2} {F : α → β → (PV → Prop) → Prop} {a b : Expr} {pos : Pos} {ta tb : TE} {pa : PX α} {pb : PX β} (hr : OpR X (compareOp op) r) (ho : S2 Ra Rb rS K PO r F) (ha : QX Ra K PO X a ta pa) (hb : QX Rb K PO X b tb pb) (hm : behindInMarks op b = false) :
    QT K PO X (.Compare a [op] [b] pos) (tTest (tOp r ta tb)) (pB (pOp F pa pb)) := ⟨pt_cmpR hr ha.pe hb.pe hm, st_test (sx_op ho ha.sd hb.sd)⟩
theorem qt_val {e : Expr} {t : TE} {p : PX PV} (h : QX rS K PO X e t p) (he : ∀ whole, isTrue e X.env whole = (do let v ← whole; standAt e.pos; holding [v] (truthy v)) := by intro _; rfl) : QT K PO X e (tB t) (pB p) := ⟨pt_val h.pe he, st_b h.sd⟩
def pAnd (p q : PX Bool) : PX Bool := fun ρ post => p ρ fun c => if c = true then q ρ post else post false
def pOr (p q : PX Bool) : PX Bool := fun ρ post => p ρ fun c => if c = true then post true else q ρ post
def pNot (p : PX Bool) : PX Bool := fun ρ post => p ρ fun c => post (!c)
theorem st_and {t u : TT} {p q : PX Bool} (h : ST K PO t p) (k : ST K PO u q) : ST K PO (tAnd t u) (pAnd p q) := fun r hp hq => h r hp fun c G1 H1 pl1 s1 hp1 => by
  cases c with
  | true => exact k (r.step s1) hp1 fun b G2 H2 pl2 s2 hp2 => hq b G2 H2 pl2 (s1.trans r.ok s2) hp2
  | false => exact hq false G1 H1 pl1 s1 hp1
theorem st_or {t u : TT} {p q : PX Bool} (h : ST K PO t p) (k : ST K PO u q) : ST K PO (tOr t u) (pOr p q) := fun r hp hq => h r hp fun c G1 H1 pl1 s1 hp1 => by
  cases c with
  | false => exact k (r.step s1) hp1 fun b G2 H2 pl2 s2 hp2 => hq b G2 H2 pl2 (s1.trans r.ok s2) hp2
  | true => exact hq true G1 H1 pl1 s1 hp1
theorem st_not {t : TT} {p : PX Bool} (h : ST K PO t p) : ST K PO (tNot t) (pNot p) := fun r hp hq => h r hp fun c G1 H1 pl1 s1 hp1 => hq _ G1 H1 pl1 s1 hp1
theorem qw_and {a b : Expr} {rest : List Expr} {pos : Pos} {t u : TT} {p q : PX Bool} (ha : QT K PO X a t p) (hb : QW K PO X (.BoolOp .And (b :: rest) pos) u q) : QW K PO X (.BoolOp .And (a :: b :: rest) pos) (tAnd t u) (pAnd p q) := ⟨pw_and ha.pe hb.pe, st_and ha.sd hb.sd⟩
theorem qw_or {a b : Expr} {rest : List Expr} {pos : Pos} {t u : TT} {p q : PX Bool} (ha : QT K PO X a t p) (hb : QW K PO X (.BoolOp .Or (b :: rest) pos) u q) : QW K PO X (.BoolOp .Or (a :: b :: rest) pos) (tOr t u) (pOr p q) := ⟨pw_or ha.pe hb.pe, st_or ha.sd hb.sd⟩
theorem qw_and1 {a : Expr} {pos : Pos} {t : TT} {p : PX Bool} (ha : QT K PO X a t p) : QW K PO X (.BoolOp .And [a] pos) t p := ⟨pw_and1 ha.pe, ha.sd⟩
theorem qw_or1 {a : Expr} {pos : Pos} {t : TT} {p : PX Bool} (ha : QT K PO X a t p) : QW K PO X (.BoolOp .Or [a] pos) t p := ⟨pw_or1 ha.pe, ha.sd⟩
theorem qw {e : Expr} {t : TT} {p : PX Bool} (h : QW K PO X e t p) : QT K PO X e t p := ⟨h.pe.pt, h.sd⟩
theorem qt_not {a : Expr} {pos : Pos} {t : TT} {p : PX Bool} (h : QT K PO X a t p) : QT K PO X (.UnaryOp .Not a pos) (tNot t) (pNot p) := ⟨pt_not h.pe, st_not h.sd⟩
def pAndV (p q : PX PV) : PX PV := fun ρ post => p ρ fun d => ∃ c, d = .bl c ∧ if c = true then q ρ post else post (.bl false)
def pOrV (p q : PX PV) : PX PV := fun ρ post => p ρ fun d => ∃ c, d = .bl c ∧ if c = true then post (.bl true) else q ρ post
def pNotV (p : PX PV) : PX PV := fun ρ post => p ρ fun d => ∃ c, d = .bl c ∧ post (.bl (!c))
theorem qe_and {a b : Expr} {rest : List Expr} {pos : Pos} {t u : TE} {p q : PX PV} (ha : QX rS K PO X a t p) (hb : QX rS K PO X (.BoolOp .And (b :: rest) pos) u q) : QX rS K PO X (.BoolOp .And (a :: b :: rest) pos) (tAndV t u) (pAndV p q) :=
  ⟨pe_and ha.pe hb.pe, fun r hp hq => ha.sd r hp fun v d G1 H1 pl1 s1 hd hp1 => by
    obtain ⟨c, rfl, hp2⟩ := hp1
    refine ⟨c, rs_bl (K := K) (pl := pl1) (G := G1) hd, ?_⟩
    cases c with
    | true => exact hb.sd (r.step s1) hp2 fun v d G2 H2 pl2 s2 hd hp2 => hq v d G2 H2 pl2 (s1.trans r.ok s2) hd hp2
    | false => exact hq (.bl _) (.bl _) G1 H1 pl1 s1 (show Rs K pl1 G1 _ _ from Rs.bl) hp2⟩
theorem qe_or {a b : Expr} {rest : List Expr} {pos : Pos} {t u : TE} {p q : PX PV} (ha : QX rS K PO X a t p) (hb : QX rS K PO X (.BoolOp .Or (b :: rest) pos) u q) : QX rS K PO X (.BoolOp .Or (a :: b :: rest) pos) (tOrV t u) (pOrV p q) :=
  ⟨pe_or ha.pe hb.pe, fun r hp hq => ha.sd r hp fun v d G1 H1 pl1 s1 hd hp1 => by
    obtain ⟨c, rfl, hp2⟩ := hp1
    refine ⟨c, rs_bl (K := K) (pl := pl1) (G := G1) hd, ?_⟩
    cases c with
    | false => exact hb.sd (r.step s1) hp2 fun v d G2 H2 pl2 s2 hd hp2 => hq v d G2 H2 pl2 (s1.trans r.ok s2) hd hp2
    | true => exact hq (.bl _) (.bl _) G1 H1 pl1 s1 (show Rs K pl1 G1 _ _ from Rs.bl) hp2⟩
theorem qe_one {op} {a : Expr} {pos : Pos} {t : TE} {p : PX PV} (h : QX rS K PO X a t p) : QX rS K PO X (.BoolOp op [a] pos) t p := ⟨pe_one h.pe, h.sd⟩
theorem qe_not {a : Expr} {pos : Pos} {t : TE} {p : PX PV} (h : QX rS K PO X a t p) : QX rS K PO X (.UnaryOp .Not a pos) (tNotV t) (pNotV p) :=
  ⟨pe_not h.pe, fun r hp hq => h.sd r hp fun v d G1 H1 pl1 s1 hd hp1 => by
    obtain ⟨c, rfl, hp2⟩ := hp1
    exact ⟨c, rs_bl (K := K) (pl := pl1) (G := G1) hd, hq (.bl _) (.bl _) G1 H1 pl1 s1 (show Rs K pl1 G1 _ _ from Rs.bl) hp2⟩⟩
def pIf (c : PX Bool) (p q : PX α) : PX α := fun ρ post => c ρ fun b => if b = true then p ρ post else q ρ post
theorem qe_if {R : RK α} {c a b : Expr} {pos : Pos} {tc : TT} {t u : TE} {pc : PX Bool} {p q : PX α} (hc : QT K PO X c tc pc) (ha : QX R K PO X a t p) (hb : QX R K PO X b u q) : QX R K PO X (.IfExp c a b pos) (tIf tc t u) (pIf pc p q) :=
  ⟨pe_ifExp hc.pe ha.pe hb.pe, fun r hp hq => hc.sd r hp fun k G1 H1 pl1 s1 hp1 => by
    cases k with
    | true => exact ha.sd (r.step s1) hp1 fun v d G2 H2 pl2 s2 hd hp2 => hq v d G2 H2 pl2 (s1.trans r.ok s2) hd hp2
    | false => exact hb.sd (r.step s1) hp1 fun v d G2 H2 pl2 s2 hd hp2 => hq v d G2 H2 pl2 (s1.trans r.ok s2) hd hp2⟩
theorem qo_if {c a b : Expr} {pos : Pos} {tc : TT} {t u : TE} {pc : PX Bool} {p q : PX Vl} (hc : QT K PO X c tc pc) (ha : QO K PO X a t p) (hb : QO K PO X b u q) : QO K PO X (.IfExp c a b pos) (tIf tc t u) (pIf pc p q) :=
  ⟨pe_ifExp hc.pe ha.pe hb.pe, fun r hp hq => hc.sd r hp fun k G1 H1 pl1 s1 hp1 => by
    cases k with
    | true => exact ha.sd (r.step s1) hp1 fun v d A G2 H2 pl2 s2 hd nd n hp2 => hq v d A G2 H2 pl2 (s1.trans r.ok s2) hd nd (fun a ha => ⟨fresh_on r.ok s1 (n a ha).1, (n a ha).2⟩) hp2
    | false => exact hb.sd (r.step s1) hp1 fun v d A G2 H2 pl2 s2 hd nd n hp2 => hq v d A G2 H2 pl2 (s1.trans r.ok s2) hd nd (fun a ha => ⟨fresh_on r.ok s1 (n a ha).1, (n a ha).2⟩) hp2⟩
def pCh (F : PV → PV → (PV → Prop) → Prop) (F' : PV → PV → (PV → Prop) → Prop) (pa pb pc : PX PV) : PX PV := fun ρ post => pa ρ fun x => pb ρ fun y => F x y fun z => ∃ k, z = .bl k ∧ if k = true then pc ρ fun w => F' y w post else post (.bl false)
/-! ### arguments, tuples, lists -/
def pNil : PX (List PV) := fun _ post => post []
def pCons (p : PX PV) (q : PX (List PV)) : PX (List PV) := fun ρ post => p ρ fun d => q ρ fun ds => post (d :: ds)
theorem qa_nil : QA K PO X [] tNil pNil := ⟨pa_nil, fun {B G0 G H pl σ ρ Q post} r hp hq => hq [] [] G H pl (Stp.refl r.ok) Rl.nil hp⟩
theorem qa_cons {e : Expr} {es : List Expr} {te : TE} {t : TA} {p : PX PV} {q : PX (List PV)} (ha : QX rS K PO X e te p) (hr : QA K PO X es t q) (hs : starEach (e :: es) X.env = (false, eval e X.env) :: starEach es X.env := by rfl) : QA K PO X (e :: es) (tCons te t) (pCons p q) :=
  ⟨pa_cons ha.pe hr.pe hs, fun r hp hq => ha.sd r hp fun v d G1 H1 pl1 s1 hd hp1 => hr.sd (r.step s1) hp1 fun vs ds G2 H2 pl2 s2 hds hp2 => hq (v :: vs) (d :: ds) G2 H2 pl2 (s1.trans r.ok s2) (Rl.cons (Rs.mono s2.g s2.le _ _ hd) hds) hp2⟩
def pTup (p : PX (List PV)) : PX PV := fun ρ post => p ρ fun ds => ds.length ≤ 16777216 ∧ post (.tup ds)
def pLst (p : PX (List PV)) : PX Vl := fun ρ post => p ρ fun ds => ds.length ≤ 16777216 ∧ post (.ol ds)
theorem qe_tup {x1} {es : List Expr} {pos : Pos} {t : TA} {p : PX (List PV)} (h : QA K PO X es t p) : QX rS K PO X (.Tuple es x1 pos) (tTup t) (pTup p) :=
  ⟨pe_tup h.pe, fun r hp hq => h.sd r hp fun vs ds G1 H1 pl1 s1 hds hp1 => ⟨by rw [hds.len, line_eq]; exact hp1.1, fun q hn => by
    have s2 := Stp.new (u := .tup vs) s1.ok hn
    exact hq _ (.tup ds) _ _ pl1 (s1.trans r.ok s2) (Rs.tup upd_same (Rl.mono s2.g s2.le _ _ hds) hp1.1) hp1.2⟩⟩
theorem so_lst {vs : List V} {ds : List PV} {G H : Hp} {pl : PL} {Q : VK} {post : Vl → Prop} (o : Ok PO G H pl) (hds : Rl K pl G ds vs) (hl : ds.length ≤ 16777216) (hp : post (.ol ds))
    (hq : ∀ v vl A G' H' pl', Stp PO G H pl G' H' pl' → RV K pl' G' H' vl v A → A.Nodup → (∀ a ∈ A, H a = none ∧ G' a = none ∧ a ∉ pads pl') → post vl → Q v H') {q : Addr} (hn : H q = none) : Q (.ref q) (upd H q (.lst vs)) := by
  refine hq _ (.ol ds) [q] G _ pl (Stp.tmp o hn) ⟨q, vs, rfl, rfl, upd_same, hds, hl⟩ (by simp) (fun a ha => ?_) hp
  rw [List.mem_singleton.mp ha]
  exact ⟨hn, o.sub.free hn, fun z => o.live q z hn⟩
theorem qo_lst {es : List Expr} {pos : Pos} {t : TA} {p : PX (List PV)} (h : QA K PO X es t p) : QO K PO X (.List es pos) (tLst t) (pLst p) :=
  ⟨pe_lst h.pe, fun r hp hq => h.sd r hp fun vs ds G1 H1 pl1 s1 hds hp1 => ⟨by rw [hds.len, line_eq]; exact hp1.1, fun q hn =>
    so_lst s1.ok hds hp1.1 hp1.2 (fun v vl A G2 H2 pl2 s2 hv nd n hp2 => hq v vl A G2 H2 pl2 (s1.trans r.ok s2) hv nd (fun a ha => ⟨fresh_on r.ok s1 (n a ha).1, (n a ha).2⟩) hp2) hn⟩⟩
/-! ### subscripts -/
theorem qe_ix {Ra : RK α} {Rb : RK β} {Rc : RK γ} {r : R2} {F : α → β → (γ → Prop) → Prop} {a b : Expr} {pos : Pos} {ta tb : TE} {pa : PX α} {pb : PX β} (hr : IxR X r) (ho : S2 Ra Rb Rc K PO r F) (ha : QX Ra K PO X a ta pa) (hb : QX Rb K PO X b tb pb) (hs : PlainIx b) :
    QX Rc K PO X (.Subscript a b pos) (tOp r ta tb) (pOp F pa pb) := ⟨pe_ix hr ha.pe hb.pe hs, sx_op ho ha.sd hb.sd⟩
/-! ### built-ins of one argument -/
def S1 (Ra : RK α) (Rc : RK γ) (K : PySem.W.Frag) (PO : POk) (r : List V → Hp → VK → Prop) (F : α → (γ → Prop) → Prop) : Prop :=
  ∀ {G H : Hp} {pl : PL} {x : V} {d : α} {Q : VK} {post : γ → Prop}, Ok PO G H pl → Ra.R K pl G H d x → F d post → (∀ v c G' H' pl', Stp PO G H pl G' H' pl' → Rc.R K pl' G' H' c v → post c → Q v H') → r [x] H Q
def S1O (Ra : RK α) (K : PySem.W.Frag) (PO : POk) (r : List V → Hp → VK → Prop) (F : α → (Vl → Prop) → Prop) : Prop :=
  ∀ {G H : Hp} {pl : PL} {x : V} {d : α} {Q : VK} {post : Vl → Prop}, Ok PO G H pl → Ra.R K pl G H d x → F d post →
    (∀ v vl A G' H' pl', Stp PO G H pl G' H' pl' → RV K pl' G' H' vl v A → A.Nodup → (∀ a ∈ A, H a = none ∧ G' a = none ∧ a ∉ pads pl') → post vl → Q v H') → r [x] H Q
def pUn (F : α → (γ → Prop) → Prop) (p : PX α) : PX γ := fun ρ post => p ρ fun d => F d post
theorem sx_1 {Ra : RK α} {Rc : RK γ} {r : List V → Hp → VK → Prop} {F : α → (γ → Prop) → Prop} {t : TE} {p : PX α} (ho : S1 Ra Rc K PO r F) (h : SX Ra K PO t p) : SX Rc K PO (tCB r (tCons t tNil)) (pUn F p) :=
  fun r1 hp hq => h r1 hp fun v d G1 H1 pl1 s1 hd hp1 => ho s1.ok hd hp1 fun w c G2 H2 pl2 s2 hc hp2 => hq w c G2 H2 pl2 (s1.trans r1.ok s2) hc hp2
theorem so_1 {Ra : RK α} {r : List V → Hp → VK → Prop} {F : α → (Vl → Prop) → Prop} {t : TE} {p : PX α} (ho : S1O Ra K PO r F) (h : SX Ra K PO t p) : SO K PO (tCB r (tCons t tNil)) (pUn F p) :=
  fun r1 hp hq => h r1 hp fun v d G1 H1 pl1 s1 hd hp1 => ho s1.ok hd hp1 fun w c A G2 H2 pl2 s2 hc nd n hp2 => hq w c A G2 H2 pl2 (s1.trans r1.ok s2) hc nd (fun a ha => ⟨fresh_on r1.ok s1 (n a ha).1, (n a ha).2⟩) hp2
section
variable {x : Str} {id : String} {r : List V → Hp → VK → Prop} {a : Expr} {p0 pos : Pos} {t : TE} {pa : PX α}
theorem qe_b1 {Ra : RK α} {Rc : RK γ} {F : α → (γ → Prop) → Prop} (hc : CallR X (.builtin id) r) (ho : S1 Ra Rc K PO r F) (hg : Gl X x) (hm : X.mg x = none) (hv : bootBuiltins x = some (.builtin id)) (ha : QX Ra K PO X a t pa)
    (hs : starEach (a :: []) X.env = (false, eval a X.env) :: starEach [] X.env := by rfl) (hn : x ≠ "__name__" := by decide) (hdb : (x == ("__debug__" : Str)) = false := by decide) (hpl : (backTo pos (starEach [] X.env)).any (·.1) = false := by rfl) :
    QX Rc K PO X (.Call (.Name x p0) [a] [] pos) (tCB r (tCons t tNil)) (pUn F pa) := ⟨pe_callB hc hg hm hv (pa_cons ha.pe pa_nil hs) hn hdb hs hpl, sx_1 ho ha.sd⟩
theorem qo_b1 {Ra : RK α} {F : α → (Vl → Prop) → Prop} (hc : CallR X (.builtin id) r) (ho : S1O Ra K PO r F) (hg : Gl X x) (hm : X.mg x = none) (hv : bootBuiltins x = some (.builtin id)) (ha : QX Ra K PO X a t pa)
    (hs : starEach (a :: []) X.env = (false, eval a X.env) :: starEach [] X.env := by rfl) (hn : x ≠ "__name__" := by decide) (hdb : (x == ("__debug__" : Str)) = false := by decide) (hpl : (backTo pos (starEach [] X.env)).any (·.1) = false := by rfl) :
    QO K PO X (.Call (.Name x p0) [a] [] pos) (tCB r (tCons t tNil)) (pUn F pa) := ⟨pe_callB hc hg hm hv (pa_cons ha.pe pa_nil hs) hn hdb hs hpl, so_1 ho ha.sd⟩
theorem qe_t1 {Ra : RK α} {Rc : RK γ} {F : α → (γ → Prop) → Prop} (hc : CallR X (.type id) r) (ho : S1 Ra Rc K PO r F) (hg : Gl X x) (hm : X.mg x = none) (hv : bootBuiltins x = some (.type id)) (ha : QX Ra K PO X a t pa)
    (hs : starEach (a :: []) X.env = (false, eval a X.env) :: starEach [] X.env := by rfl) (hn : x ≠ "__name__" := by decide) (hdb : (x == ("__debug__" : Str)) = false := by decide) (hpl : (backTo pos (starEach [] X.env)).any (·.1) = false := by rfl) :
    QX Rc K PO X (.Call (.Name x p0) [a] [] pos) (tCB r (tCons t tNil)) (pUn F pa) := ⟨pe_callTy hc hg hm hv (pa_cons ha.pe pa_nil hs) hn hdb hs hpl, sx_1 ho ha.sd⟩
theorem qo_t1 {Ra : RK α} {F : α → (Vl → Prop) → Prop} (hc : CallR X (.type id) r) (ho : S1O Ra K PO r F) (hg : Gl X x) (hm : X.mg x = none) (hv : bootBuiltins x = some (.type id)) (ha : QX Ra K PO X a t pa)
    (hs : starEach (a :: []) X.env = (false, eval a X.env) :: starEach [] X.env := by rfl) (hn : x ≠ "__name__" := by decide) (hdb : (x == ("__debug__" : Str)) = false := by decide) (hpl : (backTo pos (starEach [] X.env)).any (·.1) = false := by rfl) :
    QO K PO X (.Call (.Name x p0) [a] [] pos) (tCB r (tCons t tNil)) (pUn F pa) := ⟨pe_callTy hc hg hm hv (pa_cons ha.pe pa_nil hs) hn hdb hs hpl, so_1 ho ha.sd⟩
end
/-- of several frozen arguments -/
def SN (K : PySem.W.Frag) (PO : POk) (r : List V → Hp → VK → Prop) (F : List PV → (PV → Prop) → Prop) : Prop :=
  ∀ {G H : Hp} {pl : PL} {xs : List V} {ds : List PV} {Q : VK} {post : PV → Prop}, Ok PO G H pl → Rl K pl G ds xs → F ds post → (∀ v c G' H' pl', Stp PO G H pl G' H' pl' → Rs K pl' G' c v → post c → Q v H') → r xs H Q
theorem sx_n {r : List V → Hp → VK → Prop} {F : List PV → (PV → Prop) → Prop} {t : TA} {p : PX (List PV)} (ho : SN K PO r F) (h : SA K PO t p) : SX rS K PO (tCB r t) (pUn F p) :=
  fun r1 hp hq => h r1 hp fun v d G1 H1 pl1 s1 hd hp1 => ho s1.ok hd hp1 fun w c G2 H2 pl2 s2 hc hp2 => hq w c G2 H2 pl2 (s1.trans r1.ok s2) hc hp2
theorem qe_bn {x : Str} {id : String} {r : List V → Hp → VK → Prop} {a : Expr} {es : List Expr} {p0 pos : Pos} {t : TA} {pa : PX (List PV)} {F : List PV → (PV → Prop) → Prop} (hc : CallR X (.builtin id) r) (ho : SN K PO r F) (hg : Gl X x) (hm : X.mg x = none) (hv : bootBuiltins x = some (.builtin id)) (ha : QA K PO X (a :: es) t pa)
    (hn : x ≠ "__name__" := by decide) (hdb : (x == ("__debug__" : Str)) = false := by decide) (he : starEach (a :: es) X.env = (false, eval a X.env) :: starEach es X.env := by rfl) (hpl : (backTo pos (starEach es X.env)).any (·.1) = false := by rfl) :
    QX rS K PO X (.Call (.Name x p0) (a :: es) [] pos) (tCB r t) (pUn F pa) := ⟨pe_callB hc hg hm hv ha.pe hn hdb he hpl, sx_n ho ha.sd⟩
/-! ### slices -/
structure QP (K : PySem.W.Frag) (PO : POk) (X : Cx) (e : Option Expr) (t : TO) (p : PX (Option Int)) : Prop where
  pe : L2.PO X e t
  sd : ∀ {B G0 G H : Hp} {pl : PL} {σ : L2.St} {ρ : En} {Q : Option Int → Hp → Prop} {post : Option Int → Prop}, Rel K PO B G0 G H pl σ ρ → p ρ post → (∀ b G' H' pl', Stp PO G H pl G' H' pl' → post b → Q b H') → t σ H Q
def pNo : PX (Option Int) := fun _ post => post none
def pSome (p : PX PV) : PX (Option Int) := fun ρ post => p ρ fun d => ∃ i, d = .int i ∧ post (some i)
theorem qp_no : QP K PO X none tNoPart pNo := ⟨po_none, fun {B G0 G H pl σ ρ Q post} r hp hq => hq none G H pl (Stp.refl r.ok) hp⟩
theorem qp_some {e : Expr} {t : TE} {p : PX PV} (h : QX rS K PO X e t p) : QP K PO X (some e) (tPart t) (pSome p) :=
  ⟨po_some h.pe, fun r hp hq => h.sd r hp fun v d G1 H1 pl1 s1 hd hp1 => by
    obtain ⟨i, rfl, hp2⟩ := hp1
    exact ⟨i, rs_int (K := K) (pl := pl1) (G := G1) hd, hq _ G1 H1 pl1 s1 hp2⟩⟩
def S3 (Ra : RK α) (Rc : RK γ) (K : PySem.W.Frag) (PO : POk) (r : V → Option Int → Option Int → Hp → VK → Prop) (F : α → Option Int → Option Int → (γ → Prop) → Prop) : Prop :=
  ∀ {G H : Hp} {pl : PL} {x : V} {d : α} {lo hi : Option Int} {Q : VK} {post : γ → Prop}, Ok PO G H pl → Ra.R K pl G H d x → F d lo hi post → (∀ v c G' H' pl', Stp PO G H pl G' H' pl' → Rc.R K pl' G' H' c v → post c → Q v H') → r x lo hi H Q
def S3O (Ra : RK α) (K : PySem.W.Frag) (PO : POk) (r : V → Option Int → Option Int → Hp → VK → Prop) (F : α → Option Int → Option Int → (Vl → Prop) → Prop) : Prop :=
  ∀ {G H : Hp} {pl : PL} {x : V} {d : α} {lo hi : Option Int} {Q : VK} {post : Vl → Prop}, Ok PO G H pl → Ra.R K pl G H d x → F d lo hi post →
    (∀ v vl A G' H' pl', Stp PO G H pl G' H' pl' → RV K pl' G' H' vl v A → A.Nodup → (∀ a ∈ A, H a = none ∧ G' a = none ∧ a ∉ pads pl') → post vl → Q v H') → r x lo hi H Q
def pSl (F : α → Option Int → Option Int → (γ → Prop) → Prop) (p : PX α) (pl ph : PX (Option Int)) : PX γ := fun ρ post => p ρ fun d => pl ρ fun lo => ph ρ fun hi => F d lo hi post
theorem qe_sl {Ra : RK α} {Rc : RK γ} {r : V → Option Int → Option Int → Hp → VK → Prop} {F : α → Option Int → Option Int → (γ → Prop) → Prop} {e : Expr} {lo hi : Option Expr} {p2 pos : Pos} {te : TE} {tl th : TO} {pe : PX α} {pl ph : PX (Option Int)}
    (hr : SlR X r) (ho : S3 Ra Rc K PO r F) (he : QX Ra K PO X e te pe) (hl : QP K PO X lo tl pl) (hh : QP K PO X hi th ph) : QX Rc K PO X (.Subscript e (.Slice lo hi none p2) pos) (tSl r te tl th) (pSl F pe pl ph) :=
  ⟨pe_slice hr he.pe hl.pe hh.pe, fun r1 hp hq => he.sd r1 hp fun v d G1 H1 pl1 s1 hd hp1 => hl.sd (r1.step s1) hp1 fun l G2 H2 pl2 s2 hp2 => hh.sd ((r1.step s1).step s2) hp2 fun u G3 H3 pl3 s3 hp3 =>
    ho s3.ok (Ra.st s2.ok s3 (Ra.st s1.ok s2 hd)) hp3 fun w c G4 H4 pl4 s4 hc hp4 => hq w c G4 H4 pl4 (((s1.trans r1.ok s2).trans r1.ok s3).trans r1.ok s4) hc hp4⟩
theorem qo_sl {Ra : RK α} {r : V → Option Int → Option Int → Hp → VK → Prop} {F : α → Option Int → Option Int → (Vl → Prop) → Prop} {e : Expr} {lo hi : Option Expr} {p2 pos : Pos} {te : TE} {tl th : TO} {pe : PX α} {pl ph : PX (Option Int)}
    (hr : SlR X r) (ho : S3O Ra K PO r F) (he : QX Ra K PO X e te pe) (hl : QP K PO X lo tl pl) (hh : QP K PO X hi th ph) : QO K PO X (.Subscript e (.Slice lo hi none p2) pos) (tSl r te tl th) (pSl F pe pl ph) :=
  ⟨pe_slice hr he.pe hl.pe hh.pe, fun r1 hp hq => he.sd r1 hp fun v d G1 H1 pl1 s1 hd hp1 => hl.sd (r1.step s1) hp1 fun l G2 H2 pl2 s2 hp2 => hh.sd ((r1.step s1).step s2) hp2 fun u G3 H3 pl3 s3 hp3 =>
    ho s3.ok (Ra.st s2.ok s3 (Ra.st s1.ok s2 hd)) hp3 fun w c A G4 H4 pl4 s4 hc nd n hp4 => hq w c A G4 H4 pl4 (((s1.trans r1.ok s2).trans r1.ok s3).trans r1.ok s4) hc nd (fun a ha => ⟨fresh_on r1.ok ((s1.trans r1.ok s2).trans r1.ok s3) (n a ha).1, (n a ha).2⟩) hp4⟩
/-! ### methods of texts -/
def SM0 (K : PySem.W.Frag) (PO : POk) (r : V → List V → Hp → VK → Prop) (F : List Nat → (PV → Prop) → Prop) : Prop :=
  ∀ {G H : Hp} {pl : PL} {l : List Nat} {Q : VK} {post : PV → Prop}, Ok PO G H pl → l.length ≤ 16777216 → F l post → (∀ v c G' H' pl', Stp PO G H pl G' H' pl' → Rs K pl' G' c v → post c → Q v H') → r (vS l) [] H Q
def SM1 (Rb : RK β) (K : PySem.W.Frag) (PO : POk) (r : V → List V → Hp → VK → Prop) (F : List Nat → β → (PV → Prop) → Prop) : Prop :=
  ∀ {G H : Hp} {pl : PL} {l : List Nat} {y : V} {e : β} {Q : VK} {post : PV → Prop}, Ok PO G H pl → l.length ≤ 16777216 → Rb.R K pl G H e y → F l e post → (∀ v c G' H' pl', Stp PO G H pl G' H' pl' → Rs K pl' G' c v → post c → Q v H') → r (vS l) [y] H Q
def pM0 (F : List Nat → (γ → Prop) → Prop) (p : PX PV) : PX γ := fun ρ post => p ρ fun d => ∃ l, d = .str l ∧ F l post
def pM1 (F : List Nat → β → (γ → Prop) → Prop) (p : PX PV) (q : PX β) : PX γ := fun ρ post => p ρ fun d => ∃ l, d = .str l ∧ q ρ fun e => F l e post
theorem qe_m0 {id : String} {name : Str} {apos pos : Pos} {r : V → List V → Hp → VK → Prop} {F : List Nat → (PV → Prop) → Prop} {o : Expr} {t : TE} {p : PX PV} (slot : Slot "str" name id) (ty : typeOf (.builtin id) = pure (.type "method_descriptor")) (rule : MtR X id r) (ho : SM0 K PO r F) (h : QX rS K PO X o t p)
    (hbase : attributeBase o name X.env (eval o X.env) = eval o X.env := by rfl) (hline : (apos.endLine == pos.line) = true := by rfl) :
    QX rS K PO X (.Call (.Attribute o name apos) [] [] pos) (tM0 r t) (pM0 F p) :=
  ⟨pe_m0 slot ty rule h.pe hbase hline, fun r1 hp hq => h.sd r1 hp fun v d G1 H1 pl1 s1 hd hp1 => by
    obtain ⟨l, rfl, hp2⟩ := hp1
    obtain ⟨rfl, hl⟩ := rs_str (K := K) (pl := pl1) (G := G1) hd
    exact ⟨⟨_, rfl⟩, ho s1.ok hl hp2 fun w c G2 H2 pl2 s2 hc hp3 => hq w c G2 H2 pl2 (s1.trans r1.ok s2) hc hp3⟩⟩
theorem qe_m1 {Rb : RK β} {id : String} {name : Str} {apos pos : Pos} {r : V → List V → Hp → VK → Prop} {F : List Nat → β → (PV → Prop) → Prop} {o e : Expr} {t u : TE} {p : PX PV} {q : PX β} (slot : Slot "str" name id) (ty : typeOf (.builtin id) = pure (.type "method_descriptor")) (rule : MtR X id r) (ho : SM1 Rb K PO r F) (h : QX rS K PO X o t p) (k : QX Rb K PO X e u q)
    (hs : starEach [e] X.env = [(false, eval e X.env)] := by rfl) (hbase : attributeBase o name X.env (eval o X.env) = eval o X.env := by rfl) (hline : (apos.endLine == pos.line) = true := by rfl) :
    QX rS K PO X (.Call (.Attribute o name apos) [e] [] pos) (tM1 r t u) (pM1 F p q) :=
  ⟨pe_m1 slot ty rule h.pe k.pe hs hbase hline, fun r1 hp hq => h.sd r1 hp fun v d G1 H1 pl1 s1 hd hp1 => by
    obtain ⟨l, rfl, hp2⟩ := hp1
    obtain ⟨rfl, hl⟩ := rs_str (K := K) (pl := pl1) (G := G1) hd
    exact ⟨⟨_, rfl⟩, k.sd (r1.step s1) hp2 fun w e G2 H2 pl2 s2 he hp3 => ho s2.ok hl he hp3 fun w c G3 H3 pl3 s3 hc hp4 => hq w c G3 H3 pl3 ((s1.trans r1.ok s2).trans r1.ok s3) hc hp4⟩⟩
end

/-! ## statements -/
structure PEnds where
  nx : En → Prop
  rt : Vl → Prop
  bk : En → Prop
  ct : En → Prop
  er : Er → En → Prop := fun _ _ => False
structure EOk (K : PySem.W.Frag) (PO : POk) (W : WX) (B G0 G : Hp) (pl : PL) (D : Ends) (P : PEnds) : Prop where
  nx : ∀ {G' H' : Hp} {pl' : PL} {σ' : L2.St} {ρ' : En}, Same G G' → plLe pl pl' → Rel K PO B G0 G' H' pl' σ' ρ' → P.nx ρ' → D.nx σ' H'
  bk : ∀ {G' H' : Hp} {pl' : PL} {σ' : L2.St} {ρ' : En}, Same G G' → plLe pl pl' → Rel K PO B G0 G' H' pl' σ' ρ' → P.bk ρ' → D.bk σ' H'
  ct : ∀ {G' H' : Hp} {pl' : PL} {σ' : L2.St} {ρ' : En}, Same G G' → plLe pl pl' → Rel K PO B G0 G' H' pl' σ' ρ' → P.ct ρ' → D.ct σ' H'
  rt : ∀ {G' H' : Hp} {pl' : PL} {v : V} {vl : Vl}, Same G G' → plLe pl pl' → Rel K PO B G0 G' H' pl' [some v] [some vl] → P.rt vl → D.rt v H'
  er : ∀ {G' H' : Hp} {pl' : PL} {σ' : L2.St} {ρ' : En} {e : Er} {dd : Addr} {xs : List (Str × V)}, Same G G' → plLe pl pl' → Rel K PO B G0 G' H' pl' σ' ρ' → G' dd = some (.xd xs) → Rf K pl' G' e.fs xs → P.er e ρ' → W (.ref e.C) (some dd) σ' H'
abbrev PSt := PEnds → En → Prop
def SS (K : PySem.W.Frag) (PO : POk) (W : WX) (t : TS) (p : PSt) : Prop :=
  ∀ {B G0 G H : Hp} {pl : PL} {σ : L2.St} {ρ : En} {D : Ends} {P : PEnds}, Rel K PO B G0 G H pl σ ρ → EOk K PO W B G0 G pl D P → p P ρ → t D σ H
structure QS (K : PySem.W.Frag) (PO : POk) (W : WX) (X : Cx) (e : Stmt) (t : TS) (p : PSt) : Prop where
  pe : PS X e t
  sd : SS K PO W t p
structure QB (K : PySem.W.Frag) (PO : POk) (W : WX) (X : Cx) (e : List Stmt) (t : TS) (p : PSt) : Prop where
  pe : PSs X e t
  sd : SS K PO W t p
section
variable {K : PySem.W.Frag} {PO : POk} {X : Cx} {W : WX}
theorem EOk.mono {B G0 G G1 : Hp} {pl pl1 : PL} {D : Ends} {P : PEnds} (h : EOk K PO W B G0 G pl D P) (s : Same G G1) (p : plLe pl pl1) : EOk K PO W B G0 G1 pl1 D P :=
  ⟨fun a b r q => h.nx (s.trans a) (p.trans b) r q, fun a b r q => h.bk (s.trans a) (p.trans b) r q, fun a b r q => h.ct (s.trans a) (p.trans b) r q, fun a b r q => h.rt (s.trans a) (p.trans b) r q, fun a b r q1 q2 q => h.er (s.trans a) (p.trans b) r q1 q2 q⟩
def pNext : PSt := fun P ρ => P.nx ρ
def pSeq (p q : PSt) : PSt := fun P ρ => p { P with nx := q P } ρ
theorem ss_seq {t u : TS} {p q : PSt} (h : SS K PO W t p) (k : SS K PO W u q) : SS K PO W (tSeq t u) (pSeq p q) := fun {B G0 G H pl σ ρ D P} r e hp =>
  h (D := { D with nx := u D }) (P := { P with nx := q P }) r ⟨fun a b r' hq => k r' (e.mono a b) hq, e.bk, e.ct, e.rt, e.er⟩ hp
theorem qb_nil : QB K PO W X [] tNext pNext := ⟨pss_nil, fun {B G0 G H pl σ ρ D P} r e hp => e.nx (Same.refl _) (plLe.refl _) r hp⟩
theorem qb_one {st : Stmt} {t : TS} {p : PSt} (h : QS K PO W X st t p) : QB K PO W X [st] t p := ⟨pss_one h.pe, h.sd⟩
theorem qb_cons {st : Stmt} {rest : List Stmt} {t u : TS} {p q : PSt} (h : QS K PO W X st t p) (k : QB K PO W X rest u q) : QB K PO W X (st :: rest) (tSeq t u) (pSeq p q) := ⟨pss_cons h.pe k.pe, ss_seq h.sd k.sd⟩
/-- a cut: what holds between the two is said -/
def pCut (p q : PSt) : PSt := fun P ρ => ∃ M : En → Prop, p { P with nx := M } ρ ∧ ∀ ρ', M ρ' → q P ρ'
theorem ss_cut {t u : TS} {p q : PSt} (h : SS K PO W t p) (k : SS K PO W u q) : SS K PO W (tSeq t u) (pCut p q) := fun {B G0 G H pl σ ρ D P} r e hp => by
  obtain ⟨M, hp, hm⟩ := hp
  exact h (D := { D with nx := u D }) (P := { P with nx := M }) r ⟨fun a b r' hq => k r' (e.mono a b) (hm _ hq), e.bk, e.ct, e.rt, e.er⟩ hp
theorem qb_cut {st : Stmt} {rest : List Stmt} {t u : TS} {p q : PSt} (h : QS K PO W X st t p) (k : QB K PO W X rest u q) : QB K PO W X (st :: rest) (tSeq t u) (pCut p q) := ⟨pss_cons h.pe k.pe, ss_cut h.sd k.sd⟩
/-- x = e -/
def pSet (i : Nat) (p : En → (Vl → En → Prop) → Prop) : PSt := fun P ρ => p ρ fun vl ρ' => P.nx (ρ'.set i (some vl))
theorem ss_set {i : Nat} {te : TE} {p : En → (Vl → En → Prop) → Prop} (h : SM K PO te p) : SS K PO W (tAsg te (gName i)) (pSet i p) := fun {B G0 G H pl σ ρ D P} r e hp =>
  h r hp fun v vl ρ' G' H' pl' s le r' hq => e.nx s le r'.set hq
theorem qs_set {i : Nat} {x : Str} {e : Expr} {te : TE} {pos pos' : Pos} {p : En → (Vl → En → Prop) → Prop} (hN : X.N.Nodup) (hi : X.N[i]? = some x) (hx : Loc X.env.scope x) (he : QM K PO X e te p) (hs : swapsWith e (some (.Name x pos')) pos.line X.env = pure false := by rfl)
    (hf : X.fn x = true ∨ X.env.scope.names.lookup x = some .local := by first | exact .inl rfl | exact .inr rfl | assumption) : QS K PO W X (.Assign [.Name x pos'] e pos) (tAsg te (gName i)) (pSet i p) := ⟨ps_set hN hi hx he.pe hs hf, ss_set he.sd⟩
/-- the ghost: what the name i owns is frozen -/
def pFrz (i : Nat) (p : PSt) : PSt := fun P ρ => ∃ vl, ρ[i]? = some (some vl) ∧ p P (ρ.set i (some (.sh vl.frz)))
theorem ss_frz (i : Nat) {t : TS} {p : PSt} (h : SS K PO W t p) : SS K PO W t (pFrz i p) := fun {B G0 G H pl σ ρ D P} r e hp => by
  obtain ⟨vl, ei, hp⟩ := hp
  obtain ⟨G', s, r'⟩ := r.frz ei
  exact h r' (e.mono s (plLe.refl _)) hp
theorem qs_frz (i : Nat) {st : Stmt} {t : TS} {p : PSt} (h : QS K PO W X st t p) : QS K PO W X st t (pFrz i p) := ⟨h.pe, ss_frz i h.sd⟩
/-- the ghost: the name i is forgotten -/
def pFgt (i : Nat) (p : PSt) : PSt := fun P ρ => p P (ρ.set i none)
theorem qs_fgt (i : Nat) {st : Stmt} {t : TS} {p : PSt} (h : QS K PO W X st t p) : QS K PO W X st t (pFgt i p) := ⟨h.pe, fun {B G0 G H pl σ ρ D P} r e hp => h.sd (r.forget i) e hp⟩
/-! ### targets -/
def SG (K : PySem.W.Frag) (PO : POk) (g : TG) (ws : List Nat) (q : PV → En → (En → Prop) → Prop) : Prop :=
  ∀ {B G0 G H : Hp} {pl : PL} {σ : L2.St} {ρ : En} {v : V} {d : PV} {Q : L2.St → Hp → Prop} {post : En → Prop}, Rel K PO B G0 G H pl σ ρ → Rs K pl G d v → q d ρ post →
    (∀ σ' ρ', Rel K PO B G0 G H pl σ' ρ' → σ'.length = σ.length → (∀ j, j ∉ ws → σ'[j]? = σ[j]?) → post ρ' → Q σ' H) → g v σ H Q
def SGs (K : PySem.W.Frag) (PO : POk) (g : TGs) (ws : List Nat) (q : List PV → En → (En → Prop) → Prop) : Prop :=
  ∀ {B G0 G H : Hp} {pl : PL} {σ : L2.St} {ρ : En} {v : List V} {d : List PV} {Q : L2.St → Hp → Prop} {post : En → Prop}, Rel K PO B G0 G H pl σ ρ → Rl K pl G d v → q d ρ post →
    (∀ σ' ρ', Rel K PO B G0 G H pl σ' ρ' → σ'.length = σ.length → (∀ j, j ∉ ws → σ'[j]? = σ[j]?) → post ρ' → Q σ' H) → g v σ H Q
structure QG (K : PySem.W.Frag) (PO : POk) (X : Cx) (tg : Expr) (g : TG) (ws : List Nat) (q : PV → En → (En → Prop) → Prop) : Prop where
  pe : PG X tg g
  sd : SG K PO g ws q
structure QGs (K : PySem.W.Frag) (PO : POk) (X : Cx) (tg : List Expr) (g : TGs) (ws : List Nat) (q : List PV → En → (En → Prop) → Prop) : Prop where
  pe : PGs X tg g
  sd : SGs K PO g ws q
def gpN (i : Nat) : PV → En → (En → Prop) → Prop := fun d ρ post => post (ρ.set i (some (.sh d)))
def gpNil : List PV → En → (En → Prop) → Prop := fun ds ρ post => ds = [] ∧ post ρ
def gpCons (q : PV → En → (En → Prop) → Prop) (qs : List PV → En → (En → Prop) → Prop) : List PV → En → (En → Prop) → Prop := fun ds ρ post => ∃ d r, ds = d :: r ∧ q d ρ fun ρ' => qs r ρ' post
def gpTup (n : Nat) (qs : List PV → En → (En → Prop) → Prop) : PV → En → (En → Prop) → Prop := fun d ρ post => ∃ ds, d = .tup ds ∧ ds.length = n ∧ qs ds ρ post
theorem qg_name {i : Nat} {x : Str} {pos : Pos} (hN : X.N.Nodup) (hi : X.N[i]? = some x) (hx : Loc X.env.scope x) (hf : X.fn x = true ∨ X.env.scope.names.lookup x = some .local := by first | exact .inl rfl | exact .inr rfl | assumption) : QG K PO X (.Name x pos) (gName i) [i] (gpN i) :=
  ⟨pg_name hN hi hx hf, fun {B G0 G H pl σ ρ v d Q post} r hd hp hq => hq _ _ ((r.pushS hd).set) List.length_set (fun j hj => List.getElem?_set_ne fun z => hj (by simp [z])) hp⟩
theorem qgs_nil : QGs K PO X [] gNil [] gpNil := ⟨pgs_nil, fun {B G0 G H pl σ ρ v d Q post} r hd hp hq => by
  obtain ⟨rfl, hp⟩ := hp
  exact ⟨rl_nil hd, hq σ ρ r rfl (fun _ _ => rfl) hp⟩⟩
theorem qgs_cons {e : Expr} {es : List Expr} {t : TG} {u : TGs} {ws us : List Nat} {q : PV → En → (En → Prop) → Prop} {qs : List PV → En → (En → Prop) → Prop} (h1 : QG K PO X e t ws q) (h2 : QGs K PO X es u us qs)
    (hs : (assignEach (e :: es) X.env).map (·.2) = assign e X.env :: (assignEach es X.env).map (·.2) := by rfl) : QGs K PO X (e :: es) (gCons t u) (ws ++ us) (gpCons q qs) := ⟨pgs_cons h1.pe h2.pe hs, fun {B G0 G H pl σ ρ v d Q post} r hd hp hq => by
  obtain ⟨d1, dr, rfl, hp⟩ := hp
  obtain ⟨x, xr, rfl, k1, k2⟩ := rl_cons hd
  exact ⟨x, xr, rfl, h1.sd r k1 hp fun σ1 ρ1 r1 l1 n1 hp1 => h2.sd r1 k2 hp1 fun σ2 ρ2 r2 l2 n2 hp2 => hq σ2 ρ2 r2 (l2.trans l1) (fun j hj => (n2 j fun z => hj (List.mem_append_right _ z)).trans (n1 j fun z => hj (List.mem_append_left _ z))) hp2⟩⟩
theorem qg_tup {es : List Expr} {k : Nat} {pos : Pos} {t : TGs} {n : Nat} {ws : List Nat} {qs : List PV → En → (En → Prop) → Prop} (hK : X.K = K) (hc : X.calm = true) (h : QGs K PO X es t ws qs)
    (hn : (assignEach es X.env).length = n := by rfl) (hst : (assignEach es X.env).findIdx? (·.1) = none := by rfl) : QG K PO X (.Tuple es k pos) (gTup K n t) ws (gpTup n qs) := by
  subst hK
  refine ⟨pg_tup hc h.pe hn hst, fun {B G0 G H pl σ ρ v d Q post} r hd hp hq => ?_⟩
  obtain ⟨ds, rfl, hl, hp⟩ := hp
  obtain ⟨a, xs, rfl, k1, k2, _⟩ := rs_tup hd
  exact ⟨a, xs, rfl, r.ok.sub.sqT k1, k2.len.trans hl, h.sd r k2 hp hq⟩
/-- target = e -/
def pAsg (p : PX PV) (q : PV → En → (En → Prop) → Prop) : PSt := fun P ρ => p ρ fun d => q d ρ P.nx
theorem qs_asg {tg e : Expr} {pos : Pos} {te : TE} {g : TG} {ws : List Nat} {p : PX PV} {q : PV → En → (En → Prop) → Prop} (he : QX rS K PO X e te p) (hg : QG K PO X tg g ws q) (hs : swapsWithSole [tg] e pos.line X.env = pure false := by rfl) (hw : swappedStores [tg] e X.env = pure none := by rfl)
    (h1 : (assignEach [tg] X.env).map (·.2) = [assign tg X.env] := by rfl) : QS K PO W X (.Assign [tg] e pos) (tAsg te g) (pAsg p q) :=
  ⟨ps_asg he.pe hg.pe hs hw h1, fun {B G0 G H pl σ ρ D P} r e hp => he.sd r hp fun v d G' H' pl' s hd hp1 => hg.sd (r.step s) hd hp1 fun σ' ρ' r' _ _ hp2 => e.nx s.g s.le r' hp2⟩
/-- target = e, e changing a list that a name owns -/
def pAsgM (p : En → (Vl → En → Prop) → Prop) (q : PV → En → (En → Prop) → Prop) : PSt := fun P ρ => p ρ fun vl ρ' => ∃ d, vl = .sh d ∧ q d ρ' P.nx
theorem qs_asgM {tg e : Expr} {pos : Pos} {te : TE} {g : TG} {ws : List Nat} {p : En → (Vl → En → Prop) → Prop} {q : PV → En → (En → Prop) → Prop} (he : QM K PO X e te p) (hg : QG K PO X tg g ws q) (hs : swapsWithSole [tg] e pos.line X.env = pure false := by rfl) (hw : swappedStores [tg] e X.env = pure none := by rfl)
    (h1 : (assignEach [tg] X.env).map (·.2) = [assign tg X.env] := by rfl) : QS K PO W X (.Assign [tg] e pos) (tAsg te g) (pAsgM p q) :=
  ⟨ps_asg he.pe hg.pe hs hw h1, fun {B G0 G H pl σ ρ D P} r e hp => he.sd r hp fun v vl ρ' G' H' pl' s le r' hp1 => by
    obtain ⟨d, rfl, hp1⟩ := hp1
    obtain ⟨v', A, e1, e2, _⟩ := r'.var (i := ρ'.length) (vl := .sh d) (by simp)
    have hl := r'.lenT
    rw [List.getElem?_append_right (by omega), hl, Nat.sub_self] at e1
    cases e1
    exact hg.sd r'.drop e2.2 hp1 fun σ2 ρ2 r2 _ _ hp2 => e.nx s le r2 hp2⟩
/-! ### plain statements -/
def pDrop (p : PX PV) : PSt := fun P ρ => p ρ fun _ => P.nx ρ
theorem qs_expr {e : Expr} {pos : Pos} {te : TE} {p : PX PV} (he : QX rS K PO X e te p) (hs : swapsWith e none pos.line X.env = pure false := by rfl) : QS K PO W X (.Expr e pos) (tDrop te) (pDrop p) :=
  ⟨ps_expr he.pe hs, fun {B G0 G H pl σ ρ D P} r e hp => he.sd r hp fun v d G' H' pl' s hd hp1 => e.nx s.g s.le (r.step s) hp1⟩
def pDropM (p : En → (Vl → En → Prop) → Prop) : PSt := fun P ρ => p ρ fun _ ρ' => P.nx ρ'
theorem qs_exprM {e : Expr} {pos : Pos} {te : TE} {p : En → (Vl → En → Prop) → Prop} (he : QM K PO X e te p) (hs : swapsWith e none pos.line X.env = pure false := by rfl) : QS K PO W X (.Expr e pos) (tDrop te) (pDropM p) :=
  ⟨ps_expr he.pe hs, fun {B G0 G H pl σ ρ D P} r e hp => he.sd r hp fun v vl ρ' G' H' pl' s le r' hp1 => e.nx s le r'.drop hp1⟩
def pRet (p : En → (Vl → En → Prop) → Prop) : PSt := fun P ρ => p ρ fun vl _ => P.rt vl
theorem qs_ret {e : Expr} {pos : Pos} {te : TE} {p : En → (Vl → En → Prop) → Prop} (he : QM K PO X e te p) : QS K PO W X (.Return (some e) pos) (tRet te) (pRet p) :=
  ⟨ps_ret he.pe, fun {B G0 G H pl σ ρ D P} r e hp => he.sd r hp fun v vl ρ' G' H' pl' s le r' hp1 => e.rt s le r'.last hp1⟩
def pRetN : PSt := fun P _ => P.rt (.sh .non)
theorem qs_retN {pos : Pos} : QS K PO W X (.Return none pos) tRetN pRetN :=
  ⟨ps_retN, fun {B G0 G H pl σ ρ D P} r e hp => e.rt (Same.refl _) (plLe.refl _) (r.pushS (d := .non) (v := .non) Rs.non).last hp⟩
def pBreak : PSt := fun P ρ => P.bk ρ
def pCont : PSt := fun P ρ => P.ct ρ
theorem qs_break {pos : Pos} : QS K PO W X (.Break pos) tBreak pBreak := ⟨ps_break, fun {B G0 G H pl σ ρ D P} r e hp => e.bk (Same.refl _) (plLe.refl _) r hp⟩
theorem qs_cont {pos : Pos} : QS K PO W X (.Continue pos) tCont pCont := ⟨ps_continue, fun {B G0 G H pl σ ρ D P} r e hp => e.ct (Same.refl _) (plLe.refl _) r hp⟩
theorem qs_pass {pos : Pos} : QS K PO W X (.Pass pos) tNext pNext := ⟨ps_pass, fun {B G0 G H pl σ ρ D P} r e hp => e.nx (Same.refl _) (plLe.refl _) r hp⟩
def pIfS (c : PX Bool) (p q : PSt) : PSt := fun P ρ => c ρ fun b => if b = true then p P ρ else q P ρ
theorem qs_if {c : Expr} {a b : List Stmt} {pos : Pos} {tc : TT} {t u : TS} {pc : PX Bool} {p q : PSt} (hc : QT K PO X c tc pc) (ha : QB K PO W X a t p) (hb : QB K PO W X b u q) : QS K PO W X (.If c a b pos) (tIfS tc t u) (pIfS pc p q) :=
  ⟨ps_if hc.pe ha.pe hb.pe, fun {B G0 G H pl σ ρ D P} r e hp => hc.sd r hp fun k G1 H1 pl1 s1 hp1 => by
    cases k with
    | true => exact ha.sd (r.step s1) (e.mono s1.g s1.le) hp1
    | false => exact hb.sd (r.step s1) (e.mono s1.g s1.le) hp1⟩
def pWhile (c : PX Bool) (p : PSt) : PSt := fun P ρ => ∃ W : Nat → En → Prop, (∃ m, W m ρ) ∧ ∀ m ρ, W m ρ → c ρ fun b => if b = true then p { P with nx := fun ρ' => ∃ m', m' < m ∧ W m' ρ', ct := fun ρ' => ∃ m', m' < m ∧ W m' ρ', bk := P.nx } ρ else P.nx ρ
theorem ss_while {tc : TT} {tb : TS} {c : PX Bool} {p : PSt} (hc : ST K PO tc c) (hb : SS K PO W tb p) : SS K PO W (tWhile tc tb) (pWhile c p) := fun {B G0 G H pl σ ρ D P} r e hp => by
  obtain ⟨Wn, ⟨m0, w0⟩, hw⟩ := hp
  refine ⟨fun m σ H => ∃ G1 pl1 ρ1, Same G G1 ∧ plLe pl pl1 ∧ Rel K PO B G0 G1 H pl1 σ ρ1 ∧ Wn m ρ1, ⟨m0, G, pl, ρ, Same.refl _, plLe.refl _, r, w0⟩, ?_⟩
  rintro m σ1 H1 ⟨G1, pl1, ρ1, s1, l1, r1, w1⟩
  refine hc r1 (hw m ρ1 w1) fun k G2 H2 pl2 s2 hp2 => ?_
  cases k with
  | false => exact e.nx (s1.trans s2.g) (l1.trans s2.le) (r1.step s2) hp2
  | true =>
    refine ⟨fun σ' H' => ∃ m', m' < m ∧ ∃ G1 pl1 ρ1, Same G G1 ∧ plLe pl pl1 ∧ Rel K PO B G0 G1 H' pl1 σ' ρ1 ∧ Wn m' ρ1, fun σ' H' n => n, ?_⟩
    have e2 := e.mono (s1.trans s2.g) (l1.trans s2.le)
    refine hb (P := { P with nx := fun ρ' => ∃ m', m' < m ∧ Wn m' ρ', ct := fun ρ' => ∃ m', m' < m ∧ Wn m' ρ', bk := P.nx }) (r1.step s2) ⟨fun a b r' q => ?_, fun a b r' q => e2.nx a b r' q, fun a b r' q => ?_, e2.rt, e2.er⟩ hp2
    · obtain ⟨m', hm, q⟩ := q
      exact ⟨m', hm, _, _, _, (s1.trans s2.g).trans a, (l1.trans s2.le).trans b, r', q⟩
    · obtain ⟨m', hm, q⟩ := q
      exact ⟨m', hm, _, _, _, (s1.trans s2.g).trans a, (l1.trans s2.le).trans b, r', q⟩
theorem qs_while {c : Expr} {body : List Stmt} {pos : Pos} {tc : TT} {tb : TS} {pc : PX Bool} {p : PSt} (hp : PassesOwn (model X.prog X.w) X.A X.env X.xe) (hc : QT K PO X c tc pc) (hb : QB K PO W X body tb p) : QS K PO W X (.While c body [] pos) (tWhile tc tb) (pWhile pc p) :=
  ⟨ps_while hp hc.pe hb.pe, ss_while hc.sd hb.sd⟩
/-! ### what is walked -/
/-- the iterator J gives ds, one after another, in every later state -/
def IterOk (K : PySem.W.Frag) (PO : POk) (L : Hp → Hp → PL → Prop) (J : It) (ds : List PV) : Prop :=
  ∀ (i : Nat) (G H : Hp) (pl : PL), Ok PO G H pl → L G H pl → (i = ds.length → J.stop i H) ∧ ∀ d, ds[i]? = some d → J.go i H ∧ ∀ x H', J.yld i H x H' → ∃ G', Stp PO G H pl G' H' pl ∧ Rs K pl G' d x
/-- what was frozen stays -/
def Frz (G : Hp) (pl : PL) : Hp → Hp → PL → Prop := fun G' _ pl' => Same G G' ∧ plLe pl pl'
/-- a step from there -/
def Fol (PO : POk) (G H : Hp) (pl : PL) : Hp → Hp → PL → Prop := fun G' H' pl' => Stp PO G H pl G' H' pl'
def SI (K : PySem.W.Frag) (PO : POk) (wi : TI) (p : PX (List PV)) : Prop :=
  ∀ {B G0 G H : Hp} {pl : PL} {σ : L2.St} {ρ : En} {R : It → Hp → Prop} {post : List PV → Prop}, Rel K PO B G0 G H pl σ ρ → p ρ post →
    (∀ J ds G' H' pl', Stp PO G H pl G' H' pl' → IterOk K PO (Frz G' pl') J ds → ds.length ≤ 16777216 → post ds → R J H') → wi σ H R
/-- .. for a comprehension: a list that a name owns may be walked -/
def SIc (K : PySem.W.Frag) (PO : POk) (wi : TI) (p : PX (List PV)) : Prop :=
  ∀ {B G0 G H : Hp} {pl : PL} {σ : L2.St} {ρ : En} {R : It → Hp → Prop} {post : List PV → Prop}, Rel K PO B G0 G H pl σ ρ → p ρ post →
    (∀ J ds G' H' pl', Stp PO G H pl G' H' pl' → IterOk K PO (Fol PO G' H' pl') J ds → ds.length ≤ 16777216 → post ds → R J H') → wi σ H R
structure QI (K : PySem.W.Frag) (PO : POk) (X : Cx) (tg e : Expr) (wi : TI) (p : PX (List PV)) : Prop where
  pe : PI X tg e wi
  sd : SI K PO wi p
structure QIc (K : PySem.W.Frag) (PO : POk) (X : Cx) (tg e : Expr) (wi : TI) (p : PX (List PV)) : Prop where
  pe : PI X tg e wi
  sd : SIc K PO wi p
/-! ### for -/
def pFor (src : PX (List PV)) (q : PV → En → (En → Prop) → Prop) (p : PSt) : PSt := fun P ρ => src ρ fun ds => ∃ I : Nat → En → Prop, I 0 ρ ∧
  (∀ i d ρ1, ds[i]? = some d → I i ρ1 → q d ρ1 fun ρ2 => p { P with nx := I (i + 1), ct := I (i + 1), bk := P.nx } ρ2) ∧ ∀ ρ1, I ds.length ρ1 → P.nx ρ1
theorem ss_for {wi : TI} {g : TG} {tb : TS} {src : PX (List PV)} {ws : List Nat} {q : PV → En → (En → Prop) → Prop} {p : PSt} (hi : SI K PO wi src) (hg : SG K PO g ws q) (hb : SS K PO W tb p) : SS K PO W (tFor wi g tb) (pFor src q p) := fun {B G0 G H pl σ ρ D P} r e hp => by
  refine hi r hp fun J ds G1 H1 pl1 s1 it hl hp1 => ?_
  obtain ⟨I, i0, turn, fin⟩ := hp1
  refine ⟨fun i m σ H => m = ds.length - i ∧ i ≤ ds.length ∧ ∃ G2 pl2 ρ2, Same G1 G2 ∧ plLe pl1 pl2 ∧ Rel K PO B G0 G2 H pl2 σ ρ2 ∧ I i ρ2, ⟨ds.length, by simp, Nat.zero_le _, G1, pl1, ρ, Same.refl _, plLe.refl _, r.step s1, i0⟩, ?_⟩
  rintro i m σ2 H2 ⟨rfl, hle, G2, pl2, ρ2, s2, l2, r2, hI⟩
  obtain ⟨st, go⟩ := it i G2 H2 pl2 r2.ok ⟨s2, l2⟩
  by_cases hlt : i < ds.length
  · obtain ⟨g1, g2⟩ := go ds[i] (List.getElem?_eq_getElem hlt)
    refine .inr ⟨g1, fun σ' H' => ∃ G3 pl3 ρ3, Same G1 G3 ∧ plLe pl1 pl3 ∧ Rel K PO B G0 G3 H' pl3 σ' ρ3 ∧ I (i + 1) ρ3, fun σ' H' n => ⟨ds.length - (i + 1), by omega, rfl, hlt, n⟩, fun x H' y => ?_⟩
    obtain ⟨G3, s3, hd⟩ := g2 x H' y
    refine hg (r2.step s3) hd (turn i _ ρ2 (List.getElem?_eq_getElem hlt) hI) fun σ4 ρ4 r4 _ _ hp4 => ?_
    have e4 := e.mono ((s1.g.trans s2).trans s3.g) ((s1.le.trans l2).trans s3.le)
    refine hb (P := { P with nx := I (i + 1), ct := I (i + 1), bk := P.nx }) r4 ⟨fun a b r' q' => ?_, fun a b r' q' => e4.nx a b r' q', fun a b r' q' => ?_, e4.rt, e4.er⟩ hp4
    · exact ⟨_, _, _, (s2.trans s3.g).trans a, (l2.trans s3.le).trans b, r', q'⟩
    · exact ⟨_, _, _, (s2.trans s3.g).trans a, (l2.trans s3.le).trans b, r', q'⟩
  · have hi : i = ds.length := by omega
    subst hi
    exact .inl ⟨st rfl, e.nx (s1.g.trans s2) (s1.le.trans l2) r2 (fin ρ2 hI)⟩
theorem qs_for {tg iter : Expr} {body : List Stmt} {wi : TI} {g : TG} {tb : TS} {pos : Pos} {src : PX (List PV)} {ws : List Nat} {q : PV → En → (En → Prop) → Prop} {p : PSt} (hp : PassesOwn (model X.prog X.w) X.A X.env X.xe) (hc : X.calm = true) (hi : QI K PO X tg iter wi src) (hg : QG K PO X tg g ws q) (hb : QB K PO W X body tb p)
    (hset : ∀ x, foldedSetIterable iter X.env x = pure x := by intro _; rfl) : QS K PO W X (.For tg iter body [] pos) (tFor wi g tb) (pFor src q p) := ⟨ps_for hp hc hi.pe hg.pe hb.pe hset, ss_for hi.sd hg.sd hb.sd⟩
/-! ### comprehensions -/
structure QTs (K : PySem.W.Frag) (PO : POk) (X : Cx) (ifs : List Expr) (t : TT) (p : PX Bool) : Prop where
  pe : PTs X ifs t
  sd : ST K PO t p
def pYes : PX Bool := fun _ post => post true
theorem qts_nil : QTs K PO X [] tYes pYes := ⟨pts_nil, fun {B G0 G H pl σ ρ Q post} r hp hq => hq true G H pl (Stp.refl r.ok) hp⟩
theorem qts_one {c : Expr} {t : TT} {p : PX Bool} (h : QT K PO X c t p) : QTs K PO X [c] t p := ⟨pts_one h.pe, h.sd⟩
def pLc (src : PX (List PV)) (q : PV → En → (En → Prop) → Prop) (pt : PX Bool) (pe : PX PV) (vs : List Nat) : PX Vl := fun ρ post => src ρ fun ds => ∃ I : Nat → List PV → Prop, I 0 [] ∧
  (∀ i d ys, ds[i]? = some d → ys.length ≤ i → I i ys → q d (wipeN ρ vs) fun ρ2 => pt ρ2 fun b => if b = true then pe ρ2 fun y => I (i + 1) (ys ++ [y]) else I (i + 1) ys) ∧ ∀ ys, ys.length ≤ ds.length → I ds.length ys → post (.ol ys)
theorem wipe_same {σ σ' : L2.St} (hl : σ'.length = σ.length) : ∀ {vs : List Nat}, (∀ j, j ∉ vs → σ'[j]? = σ[j]?) → L2.wipe σ' vs = L2.wipe σ vs := by
  have key : ∀ (vs : List Nat) (σ : L2.St) (j : Nat), (L2.wipe σ vs)[j]? = if j ∈ vs then (if j < σ.length then some none else none) else σ[j]? := by
    intro vs
    induction vs with
    | nil => intro σ j; simp [L2.wipe]
    | cons v vs ih =>
      intro σ j
      show ((L2.wipe σ vs).set v none)[j]? = _
      by_cases e : v = j
      · subst e
        by_cases hj : v < σ.length
        · rw [List.getElem?_set_self (by rw [L2.wipe_length]; exact hj), if_pos (by simp), if_pos hj]
        · rw [List.getElem?_eq_none (by rw [List.length_set, L2.wipe_length]; omega), if_pos (by simp), if_neg hj]
      · rw [List.getElem?_set_ne e, ih]
        by_cases hm : j ∈ vs
        · rw [if_pos hm, if_pos (List.mem_cons_of_mem _ hm)]
        · rw [if_neg hm, if_neg (fun z => by rcases List.mem_cons.mp z with z | z; exact e z.symm; exact hm z)]
  intro vs h
  apply List.ext_getElem?
  intro j
  rw [key, key, hl]
  by_cases hm : j ∈ vs
  · rw [if_pos hm, if_pos hm]
  · rw [if_neg hm, if_neg hm, h j hm]
theorem wipe_wipe (σ : L2.St) (vs : List Nat) : L2.wipe (L2.wipe σ vs) vs = L2.wipe σ vs := by
  have key : ∀ (vs : List Nat) (σ : L2.St) (j : Nat), (L2.wipe σ vs)[j]? = if j ∈ vs then (if j < σ.length then some none else none) else σ[j]? := by
    intro vs
    induction vs with
    | nil => intro σ j; simp [L2.wipe]
    | cons v vs ih =>
      intro σ j
      show ((L2.wipe σ vs).set v none)[j]? = _
      by_cases e : v = j
      · subst e
        by_cases hj : v < σ.length
        · rw [List.getElem?_set_self (by rw [L2.wipe_length]; exact hj), if_pos (by simp), if_pos hj]
        · rw [List.getElem?_eq_none (by rw [List.length_set, L2.wipe_length]; omega), if_pos (by simp), if_neg hj]
      · rw [List.getElem?_set_ne e, ih]
        by_cases hm : j ∈ vs
        · rw [if_pos hm, if_pos (List.mem_cons_of_mem _ hm)]
        · rw [if_neg hm, if_neg (fun z => by rcases List.mem_cons.mp z with z | z; exact e z.symm; exact hm z)]
  apply List.ext_getElem?
  intro j
  rw [key vs (L2.wipe σ vs) j, L2.wipe_length]
  by_cases hm : j ∈ vs
  · rw [if_pos hm, key vs σ j, if_pos hm]
  · rw [if_neg hm]
theorem so_lc {wi : TI} {g : TG} {tt : TT} {te : TE} {vs : List Nat} {src : PX (List PV)} {ws : List Nat} {q : PV → En → (En → Prop) → Prop} {pt : PX Bool} {pe : PX PV} (hw : ∀ j ∈ ws, j ∈ vs) (hi : SIc K PO wi src) (hg : SG K PO g ws q) (ht : ST K PO tt pt) (he : SX rS K PO te pe) : SO K PO (tLc wi g tt te vs) (pLc src q pt pe vs) :=
  fun {B G0 G H pl σ ρ Q post} r hp hq => by
  refine hi r hp fun J ds G1 H1 pl1 s1 it hl hp1 => ?_
  obtain ⟨I, i0, turn, fin⟩ := hp1
  intro Dl hD
  have r1 := r.step s1
  have sD : Stp PO G1 H1 pl1 G1 (upd H1 Dl (.lst [])) pl1 := Stp.tmp s1.ok hD
  have hp1 : Dl ∉ pads pl1 := fun z => s1.ok.live Dl z hD
  refine ⟨fun i m H' => m = ds.length - i ∧ i ≤ ds.length ∧ ∃ G2 pl2 ys xs, Rel K PO B G0 G2 H' pl2 σ ρ ∧ Stp PO G1 H1 pl1 G2 H' pl2 ∧ H' Dl = some (.lst xs) ∧ G2 Dl = none ∧ Dl ∉ pads pl2 ∧ Rl K pl2 G2 ys xs ∧ ys.length ≤ i ∧ I i ys,
    ⟨ds.length, by simp, Nat.zero_le _, G1, pl1, [], [], r1.step sD, sD, upd_same, s1.ok.sub.free hD, hp1, Rl.nil, Nat.le_refl _, i0⟩, ?_⟩
  rintro i m H2 ⟨rfl, hle, G2, pl2, ys, xs, r2, s2, h1, h2, h3, h4, h5, hI⟩
  obtain ⟨st, go⟩ := it i G2 H2 pl2 r2.ok s2
  by_cases hlt : i < ds.length
  · obtain ⟨g1, g2⟩ := go ds[i] (List.getElem?_eq_getElem hlt)
    refine .inr ⟨g1, fun H' => ∃ G2 pl2 ys xs, Rel K PO B G0 G2 H' pl2 σ ρ ∧ Stp PO G1 H1 pl1 G2 H' pl2 ∧ H' Dl = some (.lst xs) ∧ G2 Dl = none ∧ Dl ∉ pads pl2 ∧ Rl K pl2 G2 ys xs ∧ ys.length ≤ i + 1 ∧ I (i + 1) ys, fun H' n => ⟨ds.length - (i + 1), by omega, rfl, hlt, n⟩, fun x H3 y => ?_⟩
    obtain ⟨G3, s3, hd⟩ := g2 x H3 y
    have r3 := r2.step s3
    refine hg (r3.wipe vs) hd (turn i _ ys (List.getElem?_eq_getElem hlt) h5 hI) fun σ4 ρ4 r4 l4 n4 hp4 => ?_
    refine ⟨?_, ?_⟩
    · rw [wipe_same l4 (fun j hj => n4 j fun z => hj (hw j z)), wipe_wipe]
    have k3 : H3 Dl = some (.lst xs) := s3.h Dl _ h1 h3
    have k3n : G3 Dl = none := (s3.gn Dl (.lst h1)).trans h2
    refine ht r4 hp4 fun b G5 H5 pl5 s5 hp5 => ?_
    have k5 : H5 Dl = some (.lst xs) := s5.h Dl _ k3 (s5.off (by rw [k3]; simp) h3)
    have k5n : G5 Dl = none := (s5.gn Dl (.lst k3)).trans k3n
    have k5p : Dl ∉ pads pl5 := s5.off (by rw [k3]; simp) h3
    have s25 := s3.trans r2.ok s5
    cases b with
    | false =>
      exact ⟨G5, pl5, ys, xs, r3.step s5, s2.trans s1.ok s25, k5, k5n, k5p, Rl.mono s25.g s25.le _ _ h4, by omega, hp5⟩
    | true =>
      refine he (r4.step s5) hp5 fun y d G6 H6 pl6 s6 hd6 hp6 => ?_
      have k6 : H6 Dl = some (.lst xs) := s6.h Dl _ k5 (s6.off (by rw [k5]; simp) k5p)
      have k6n : G6 Dl = none := (s6.gn Dl (.lst k5)).trans k5n
      have k6p : Dl ∉ pads pl6 := s6.off (by rw [k5]; simp) k5p
      have s26 := s25.trans r2.ok s6
      have h4' := Rl.mono s26.g s26.le _ _ h4
      have hlen := h4.len
      have r6 := r2.step s26
      have s16 := s2.trans s1.ok s26
      refine ⟨xs, k6, by rw [line_eq]; omega, G6, pl6, ys ++ [d], xs ++ [y], ?_, ?_, upd_same, k6n, k6p, h4'.snoc hd6, by rw [List.length_append, List.length_singleton]; omega, hp6⟩
      · have hB : B Dl = none := by
          cases eB : B Dl with
          | none => rfl
          | some o => exact absurd hD (r1.on Dl (by rw [eB]; simp))
        have hext : Ok PO G6 (upd H6 Dl (.lst (xs ++ [y]))) pl6 := by
          refine ⟨fun b o eb => ?_, fun v as ep => ⟨PO.ext _ _ _ _ (r6.ok.pok v as ep).1 fun a ha => upd_ne fun z => ?_, (r6.ok.pok v as ep).2⟩⟩
          · rw [upd_ne fun z => by subst z; rw [k6n] at eb; cases eb]
            exact r6.ok.sub b o eb
          · subst z
            exact k6p (by rw [ep]; exact ha)
        refine ⟨hext, r6.gb, fun a ha => ?_, fun b o eb hb => ?_, r6.len, ?_⟩
        · by_cases z : a = Dl
          · subst z; rw [upd_same]; simp
          · rw [upd_ne z]; exact r6.on a ha
        · rw [upd_ne fun z => by subst z; rw [hB] at eb; cases eb]
          exact r6.fr b o eb hb
        · -- the owned things are none of Dl
          obtain ⟨fp, f1, f2, f3, f4⟩ := r1.ex2
          have dj : ∀ i a, a ∈ fp i → a ≠ Dl := fun i a ha z => (f4 i a ha).2.2.2.1 (z ▸ hD)
          refine ⟨fp, fun j vl' ej => ?_, f2, f3, fun j a ha => ?_⟩
          · obtain ⟨v', e1, e2⟩ := f1 j vl' ej
            refine ⟨v', e1, e2.mono s16.g s16.le fun a ha o eo => ?_⟩
            rw [upd_ne (dj j a ha)]
            exact s16.h a o eo (s16.off (f4 j a ha).2.2.2.1 (f4 j a ha).2.2.1)
          · obtain ⟨q1, q2, q3, q4⟩ := f4 j a ha
            rw [upd_ne (dj j a ha)]
            exact ⟨(s16.gn a q4).trans q1, q2, s16.off q4.1 q3, s16.on s1.ok q4.1⟩
      · refine ⟨s16.g, s16.gn, fun b o eb hb => ?_, s16.pl, ?_⟩
        · rw [upd_ne (ne_of_none eb hD)]
          exact s16.h b o eb hb
        · refine ⟨fun b o eb => ?_, fun v as ep => ⟨PO.ext _ _ _ _ (r6.ok.pok v as ep).1 fun a ha => upd_ne fun z => ?_, (r6.ok.pok v as ep).2⟩⟩
          · rw [upd_ne fun z => by subst z; rw [k6n] at eb; cases eb]
            exact r6.ok.sub b o eb
          · subst z
            exact k6p (by rw [ep]; exact ha)
  · have hi : i = ds.length := by omega
    subst hi
    refine .inl ⟨st rfl, ?_⟩
    refine hq (.ref Dl) (.ol ys) [Dl] G2 H2 pl2 (s1.trans r.ok s2) ⟨Dl, xs, rfl, rfl, h1, h4, by omega⟩ (by simp) (fun a ha => ?_) (fin ys h5 hI)
    rw [List.mem_singleton.mp ha]
    exact ⟨fresh_on r.ok s1 hD, h2, h3⟩
theorem qo_lc {elt tg iter : Expr} {ifs : List Expr} {scope : Scope} {own : List (Str × Nat)} {pos : Pos} {wi : TI} {g : TG} {tt : TT} {te : TE} {src : PX (List PV)} {ws : List Nat} {q : PV → En → (En → Prop) → Prop} {pt : PX Bool} {pe : PX PV} (hc : X.calm = true) (hN : X.N.Nodup)
    (hi : QIc K PO X tg iter wi src) (ok : BlkOk X.N X.env.scope scope own)
    (hg : ∀ (s : Shared) (H : Hp) (C : Addr) (cl : List (Str × Addr)) (fp : List Addr), QG K PO (X.blk s H scope (compEnvC scope cl C X.env) fp) tg g ws q) (ht : ∀ (s : Shared) (H : Hp) (C : Addr) (cl : List (Str × Addr)) (fp : List Addr), QTs K PO (X.blk s H scope (compEnvC scope cl C X.env) fp) ifs tt pt)
    (he : ∀ (s : Shared) (H : Hp) (C : Addr) (cl : List (Str × Addr)) (fp : List Addr), QX rS K PO (X.blk s H scope (compEnvC scope cl C X.env) fp) elt te pe) (hw : ∀ j ∈ ws, j ∈ own.map (·.2)) (hs : ∀ x, foldedSetIterable iter X.env x = pure x := by intro _; rfl) :
    QO K PO X (.ListComp elt [⟨tg, iter, ifs, 0⟩] scope pos) (tLc wi g tt te (own.map (·.2))) (pLc src q pt pe (own.map (·.2))) :=
  ⟨pe_lc hc hN hi.pe ok (fun s H C cl fp => (hg s H C cl fp).pe) (fun s H C cl fp => (ht s H C cl fp).pe) (fun s H C cl fp => (he s H C cl fp).pe) hs,
    so_lc hw hi.sd (hg X.s_0 X.H_0 0 [] []).sd (ht X.s_0 X.H_0 0 [] []).sd (he X.s_0 X.H_0 0 [] []).sd⟩
end

/-! ## calls -/
abbrev SpV := List PV → (Vl → Prop) → Prop
def hSp (K : PySem.W.Frag) (PO : POk) (sp : SpV) : Sp := fun vs H Q _ => ∃ (G : Hp) (pl : PL) (ds : List PV) (post : Vl → Prop), Ok PO G H pl ∧ Rl K pl G ds vs ∧ sp ds post ∧
  ∀ vl v G' H', post vl → Same G G' → Rel K PO H G G' H' pl [some v] [some vl] → Q v H'
abbrev CalV (P : Program) (w : World) (K : PySem.W.Frag) (PO : POk) (mg : Str → Option Value) (base : Heap) (k : Nat) (x : Str) (sp : SpV) : Prop := Cal P w K mg base k x (hSp K PO sp)
def pCall (sp : SpV) (p : PX (List PV)) : PX Vl := fun ρ post => p ρ fun ds => sp ds post
section
variable {K : PySem.W.Frag} {PO : POk} {X : Cx}
theorem Rel.ret {B G G1 H H1 : Hp} {pl : PL} {v : V} {vl : Vl} (o : Ok PO G H pl) (r : Rel K PO H G G1 H1 pl [some v] [some vl]) (s : Same G G1) : ∃ A, Stp PO G H pl G1 H1 pl ∧ RV K pl G1 H1 vl v A ∧ A.Nodup ∧ ∀ a ∈ A, H a = none ∧ G1 a = none ∧ a ∉ pads pl := by
  obtain ⟨v', A, e1, e2, nd, n⟩ := r.var (i := 0) (vl := vl) rfl
  cases e1
  exact ⟨A, ⟨s, r.gb, r.fr, rfl, r.ok⟩, e2, nd, fun a ha => ⟨(n a ha).2.1, (n a ha).1, (n a ha).2.2.1⟩⟩
theorem so_call {sp : SpV} {t : TA} {p : PX (List PV)} (h : SA K PO t p) : SO K PO (tCall (hSp K PO sp) [] E0 t) (pCall sp p) := fun {B G0 G H pl σ ρ Q post} r hp hq => by
  refine h r hp fun vs ds G1 H1 pl1 s1 hds hp1 => ?_
  show hSp K PO sp (vs ++ []) H1 Q E0
  rw [List.append_nil]
  refine ⟨G1, pl1, ds, post, s1.ok, hds, hp1, fun vl v G2 H2 hpost s2 r2 => ?_⟩
  obtain ⟨A, st, hv, nd, n⟩ := Rel.ret (B := B) s1.ok r2 s2
  exact hq v vl A G2 H2 pl1 (s1.trans r.ok st) hv nd (fun a ha => ⟨fresh_on r.ok s1 (n a ha).1, (n a ha).2⟩) hpost
theorem qo_c {k j : Nat} {x : Str} {sp : SpV} {p0 pos : Pos} {e : Expr} {es : List Expr} {t : TA} {p : PX (List PV)} (hK : X.K = K) (c : CalV X.prog X.w X.K PO X.mg X.base k x sp) (hr : Room j X.A) (hk : k ≤ j) (hg : Gl X x) (ha : QA K PO X (e :: es) t p)
    (hdb : (x == ("__debug__" : Str)) = false := by decide) (he : starEach (e :: es) X.env = (false, eval e X.env) :: starEach es X.env := by rfl) (hpl : (backTo pos (starEach es X.env)).any (·.1) = false := by rfl) :
    QO K PO X (.Call (.Name x p0) (e :: es) [] pos) (tCall (hSp K PO sp) [] E0 t) (pCall sp p) := by
  subst hK
  exact ⟨pe_c c hr hk hg ha.pe hdb he hpl, so_call ha.sd⟩
end
/-! ## a def's body -/
def startV (n : Nat) (ds : List PV) : En := ds.map (fun d => some (.sh d)) ++ List.replicate (n - ds.length) none
theorem rel_start {K : PySem.W.Frag} {PO : POk} {G H : Hp} {pl : PL} {N : List Str} {vs : List V} {ds : List PV} (o : Ok PO G H pl) (h : Rl K pl G ds vs) : Rel K PO H G G H pl (start N vs) (startV N.length ds) := by
  have hl := h.len
  refine ⟨o, fun _ _ => rfl, fun _ h => h, fun _ _ e _ => e, ?_, ⟨fun _ => [], fun i vl e => ?_, fun _ => List.nodup_nil, (fun _ _ _ h => nomatch h), (fun _ _ h => nomatch h)⟩⟩
  · unfold L2.start startV
    rw [List.length_append, List.length_append, List.length_map, List.length_map, List.length_replicate, List.length_replicate, hl]
  · unfold startV at e
    unfold L2.start
    by_cases hi : i < ds.length
    · rw [List.getElem?_append_left (by rw [List.length_map]; exact hi), List.getElem?_map, List.getElem?_eq_getElem hi] at e
      obtain ⟨x, h1, h2⟩ := h.get (List.getElem?_eq_getElem hi)
      cases e
      refine ⟨x, ?_, rfl, h2⟩
      rw [List.getElem?_append_left (by rw [List.length_map]; omega), List.getElem?_map, h1]
      rfl
    · rw [List.getElem?_append_right (by rw [List.length_map]; omega), List.getElem?_replicate] at e
      split at e <;> cases e
theorem At.calV {P : Program} {w : World} {K : PySem.W.Frag} {PO : POk} {mg : Str → Option Value} {base : Heap} {x : Str} {st : Stmt} {N ps : List Str} {k : Nat} {sp : SpV} (F : At K mg x st) (S : FnScope N ps (defScope st)) (len : ∀ ds post, sp ds post → ds.length = ps.length)
    (hb : ∀ (kV doc pm : Value) (an : Option Addr) (cdv ct : Value) (us : List Value), us.length = ps.length → bindArgs (PySem.W.fnOf x x (defArgs st) (defBody st) (defScope st) .none kV doc pm an cdv ct) ⟨us, []⟩ = pure (ps.zip us))
    (hbody : ∀ (f : Addr) (cdv : Value) (A : Around) (outer : List Env) (s : Shared) (H : Hp) (E : XK), Room k (A.deeper (envOfC x (defScope st) s.heap.objs.size f cdv)) →
      ∃ t p, QB K PO (fun _ _ _ _ => False) (cxOf CX0 P w K mg base N x (defScope st) f cdv A outer s H E).nox (defBody st) t p ∧ ∀ ds post, sp ds post → p { nx := fun _ => post (.sh .non), rt := post, bk := fun _ => False, ct := fun _ => False } (startV N.length ds)) : CalV P w K PO mg base (k + 1) x sp := by
  refine F.cal S (fun vs H Q E h => ?_) hb (fun f cdv A outer s H vs Q E hr h => ?_)
  · obtain ⟨G, pl, ds, post, _, hl, hs, _⟩ := h
    rw [hl.len]
    exact len ds post hs
  · obtain ⟨t, p, q, hp⟩ := hbody f cdv A outer s H E hr
    obtain ⟨G, pl, ds, post, o, hl, hs, hq⟩ := h
    refine ⟨t, q.pe, ?_⟩
    refine q.sd (P := { nx := fun _ => post (.sh .non), rt := post, bk := fun _ => False, ct := fun _ => False }) (rel_start o hl) ⟨fun {G' H' pl' σ' ρ'} a b r hpost => ?_, fun _ _ _ h => h.elim, fun _ _ _ h => h.elim, fun {G' H' pl' v vl} a b r hpost => ?_, ?_⟩ (hp ds post hs)
    · cases b
      exact hq (.sh .non) .non G' H' hpost a (r.pushS (d := .non) (v := .non) Rs.non).last
    · cases b
      exact hq vl v G' H' hpost a r
    · exact fun _ _ _ _ _ h => h.elim

/-! ## sequences, read now -/
abbrev rQ : RK (List PV) := ⟨fun K pl G H ds v => ∃ a xs, v = .ref a ∧ ((H a = some (.lst xs) ∧ a ∉ pads pl) ∨ SqT K G a xs) ∧ Rl K pl G ds xs ∧ ds.length ≤ 16777216, fun _ s h => by
  obtain ⟨a, xs, rfl, h1, h3, h4⟩ := h
  refine ⟨a, xs, rfl, ?_, Rl.mono s.g s.le _ _ h3, h4⟩
  rcases h1 with ⟨h1, h2⟩ | h1
  · exact .inl ⟨s.h a _ h1 (s.off (by rw [h1]; simp) h2), s.off (by rw [h1]; simp) h2⟩
  · exact .inr (s.g.sqT h1)⟩
section
variable {K : PySem.W.Frag} {PO : POk} {X : Cx}
theorem qq_l {e : Expr} {t : TE} {p : PX (List PV)} (h : QX rL K PO X e t p) : QX rQ K PO X e t p :=
  ⟨h.pe, fun r hp hq => h.sd r hp fun v d G' H' pl' s hd hpost => by
    obtain ⟨a, xs, rfl, h1, h2, h3, h4⟩ := hd
    exact hq _ d G' H' pl' s ⟨a, xs, rfl, .inl ⟨h1, h2⟩, h3, h4⟩ hpost⟩
def pOfT (p : PX PV) : PX (List PV) := fun ρ post => p ρ fun d => ∃ ds, d = .tup ds ∧ post ds
theorem qq_t {e : Expr} {t : TE} {p : PX PV} (h : QX rS K PO X e t p) : QX rQ K PO X e t (pOfT p) :=
  ⟨h.pe, fun r hp hq => h.sd r hp fun v d G' H' pl' s hd hpost => by
    obtain ⟨ds, rfl, hpost⟩ := hpost
    obtain ⟨a, xs, rfl, h1, h2, h3⟩ := rs_tup (K := K) (pl := pl') (G := G') hd
    exact hq _ ds G' H' pl' s ⟨a, xs, rfl, .inr h1, h2, h3⟩ hpost⟩
/-- a value that may be of several kinds, as a sequence -/
def pOfA (p : PX PV) : PX (List PV) := fun ρ post => p ρ fun d => ∃ ds, (d = .tup ds ∨ d = .lst ds) ∧ post ds
end
section
variable {K : PySem.W.Frag} {PO : POk} {G H : Hp} {pl : PL}
theorem seq_of {a : Addr} {xs : List V} (o : Ok PO G H pl) (h : (H a = some (.lst xs) ∧ a ∉ pads pl) ∨ SqT K G a xs) : SqL K H a xs ∨ SqT K H a xs := by
  rcases h with ⟨h, _⟩ | h
  · exact .inl (SqL.of h)
  · exact .inr (o.sub.sqT h)
/-! ## lists of data as lists of values -/
theorem rl_str : ∀ {ls : List (List Nat)} {xs : List V}, Rl K pl G (ls.map PV.str) xs → xs = ls.map vS
  | [], xs, h => rl_nil h
  | l :: ls, xs, h => by
    obtain ⟨x, r, rfl, h1, h2⟩ := rl_cons h
    rw [(rs_str h1).1, rl_str h2]
    rfl
theorem rl_int : ∀ {ls : List Int} {xs : List V}, Rl K pl G (ls.map PV.int) xs → xs = ls.map V.int
  | [], xs, h => rl_nil h
  | l :: ls, xs, h => by
    obtain ⟨x, r, rfl, h1, h2⟩ := rl_cons h
    rw [rs_int h1, rl_int h2]
    rfl
theorem rl_bl : ∀ {ls : List Bool} {xs : List V}, Rl K pl G (ls.map PV.bl) xs → xs = ls.map V.bl
  | [], xs, h => rl_nil h
  | l :: ls, xs, h => by
    obtain ⟨x, r, rfl, h1, h2⟩ := rl_cons h
    rw [rs_bl h1, rl_bl h2]
    rfl
theorem rl_ints : ∀ ls : List Int, Rl K pl G (ls.map PV.int) (ls.map V.int)
  | [] => Rl.nil
  | l :: ls => Rl.cons Rs.int (rl_ints ls)
theorem rl_strs : ∀ ls : List (List Nat), (∀ l ∈ ls, l.length ≤ 16777216) → Rl K pl G (ls.map PV.str) (ls.map vS)
  | [], _ => Rl.nil
  | l :: ls, h => Rl.cons (Rs.str (h l (by simp))) (rl_strs ls fun x hx => h x (List.mem_cons_of_mem _ hx))
theorem rl_str_len : ∀ {ls : List (List Nat)} {xs : List V}, Rl K pl G (ls.map PV.str) xs → ∀ l ∈ ls, l.length ≤ 16777216
  | l :: ls, xs, h, m, hm => by
    obtain ⟨x, r, rfl, h1, h2⟩ := rl_cons h
    rcases List.mem_cons.mp hm with rfl | hm
    · exact (rs_str h1).2
    · exact rl_str_len h2 m hm
end
/-! ## operators of numbers -/
def fI (C : Int → Int → Prop) (g : Int → Int → PV) : PV → PV → (PV → Prop) → Prop := fun x y post => ∃ i j, x = .int i ∧ y = .int j ∧ C i j ∧ post (g i j)
def f0 (g : Int → Int → PV) : PV → PV → (PV → Prop) → Prop := fun x y post => ∃ i j, x = .int i ∧ y = .int j ∧ post (g i j)
section
variable {K : PySem.W.Frag} {PO : POk}
theorem s2_I {C : Int → Int → Prop} {g : Int → Int → Int} : S2 rS rS rS K PO (rI C fun i j => .int (g i j)) (fI C fun i j => .int (g i j)) := fun {G H pl x y d e Q post} o hx hy hf hq => by
  obtain ⟨i, j, rfl, rfl, hc, hp⟩ := hf
  exact ⟨i, j, rs_int (K := K) (pl := pl) (G := G) hx, rs_int (K := K) (pl := pl) (G := G) hy, hc, hq _ (.int _) G H pl (Stp.refl o) (show Rs K pl G _ _ from Rs.int) hp⟩
theorem s2_0 {g : Int → Int → Int} : S2 rS rS rS K PO (rI0 fun i j => .int (g i j)) (f0 fun i j => .int (g i j)) := fun {G H pl x y d e Q post} o hx hy hf hq => by
  obtain ⟨i, j, rfl, rfl, hp⟩ := hf
  exact ⟨i, j, rs_int (K := K) (pl := pl) (G := G) hx, rs_int (K := K) (pl := pl) (G := G) hy, hq _ (.int _) G H pl (Stp.refl o) (show Rs K pl G _ _ from Rs.int) hp⟩
theorem s2_B {g : Int → Int → Bool} : S2 rS rS rS K PO (rI0 fun i j => .bl (g i j)) (f0 fun i j => .bl (g i j)) := fun {G H pl x y d e Q post} o hx hy hf hq => by
  obtain ⟨i, j, rfl, rfl, hp⟩ := hf
  exact ⟨i, j, rs_int (K := K) (pl := pl) (G := G) hx, rs_int (K := K) (pl := pl) (G := G) hy, hq _ (.bl _) G H pl (Stp.refl o) (show Rs K pl G _ _ from Rs.bl) hp⟩
def fU (g : Int → Int) : PV → (PV → Prop) → Prop := fun x post => ∃ i, x = .int i ∧ post (.int (g i))
theorem sx_un {g : Int → Int} {t : TE} {p : PX PV} (h : SX rS K PO t p) : SX rS K PO (tUn (rU fun i => .int (g i)) t) (pUn (fU g) p) := fun {B G0 G H pl σ ρ Q post} r hp hq => h r hp fun v d G1 H1 pl1 s1 hd hp1 => by
  obtain ⟨i, rfl, hp2⟩ := hp1
  exact ⟨i, rs_int (K := K) (pl := pl1) (G := G1) hd, hq _ (.int _) G1 H1 pl1 s1 (show Rs K pl1 G1 _ _ from Rs.int) hp2⟩
theorem qe_neg {X : Cx} {a : Expr} {pos : Pos} {t : TE} {p : PX PV} (h : QX rS K PO X a t p) : QX rS K PO X (.UnaryOp .USub a pos) (tUn (rU fun i => .int (-i)) t) (pUn (fU fun i => -i) p) := ⟨pe_un un_neg h.pe, sx_un h.sd⟩
/-! ## texts -/
def fSS (g : List Nat → List Nat → PV) : PV → PV → (PV → Prop) → Prop := fun x y post => ∃ a b, x = .str a ∧ y = .str b ∧ post (g a b)
theorem s2_eqS : S2 rS rS rS K PO zEqS (fSS fun a b => .bl (decide (a = b))) := fun {G H pl x y d e Q post} o hx hy hf hq => by
  obtain ⟨a, b, rfl, rfl, hp⟩ := hf
  exact ⟨a, b, (rs_str (K := K) (pl := pl) (G := G) hx).1, (rs_str (K := K) (pl := pl) (G := G) hy).1, hq _ (.bl _) G H pl (Stp.refl o) (show Rs K pl G _ _ from Rs.bl) hp⟩
theorem s2_neS : S2 rS rS rS K PO zNeS (fSS fun a b => .bl (!decide (a = b))) := fun {G H pl x y d e Q post} o hx hy hf hq => by
  obtain ⟨a, b, rfl, rfl, hp⟩ := hf
  exact ⟨a, b, (rs_str (K := K) (pl := pl) (G := G) hx).1, (rs_str (K := K) (pl := pl) (G := G) hy).1, hq _ (.bl _) G H pl (Stp.refl o) (show Rs K pl G _ _ from Rs.bl) hp⟩
def zLtS : R2 := fun x y H Q => ∃ a b : List Nat, x = vS a ∧ y = vS b ∧ Q (.bl (decide (a < b))) H
def zLeS : R2 := fun x y H Q => ∃ a b : List Nat, x = vS a ∧ y = vS b ∧ Q (.bl (!decide (b < a))) H
def zGtS : R2 := fun x y H Q => ∃ a b : List Nat, x = vS a ∧ y = vS b ∧ Q (.bl (decide (b < a))) H
def zGeS : R2 := fun x y H Q => ∃ a b : List Nat, x = vS a ∧ y = vS b ∧ Q (.bl (!decide (a < b))) H
theorem op_ltS {X : Cx} : OpR X (compareOp .Lt) zLtS := by
  intro pins s σ H x y v u Q I rx ry h
  obtain ⟨a, b, rfl, rfl, q⟩ := h
  exact op_lt_str pins s σ H _ _ v u Q I rx ry ⟨S a, S b, rfl, rfl, q⟩
theorem op_leS {X : Cx} : OpR X (compareOp .LtE) zLeS := by
  intro pins s σ H x y v u Q I rx ry h
  obtain ⟨a, b, rfl, rfl, q⟩ := h
  exact op_le_str pins s σ H _ _ v u Q I rx ry ⟨S a, S b, rfl, rfl, q⟩
theorem op_gtS {X : Cx} : OpR X (compareOp .Gt) zGtS := by
  intro pins s σ H x y v u Q I rx ry h
  obtain ⟨a, b, rfl, rfl, q⟩ := h
  exact op_gt_str pins s σ H _ _ v u Q I rx ry ⟨S a, S b, rfl, rfl, q⟩
theorem op_geS {X : Cx} : OpR X (compareOp .GtE) zGeS := by
  intro pins s σ H x y v u Q I rx ry h
  obtain ⟨a, b, rfl, rfl, q⟩ := h
  exact op_ge_str pins s σ H _ _ v u Q I rx ry ⟨S a, S b, rfl, rfl, q⟩
theorem s2_ltS : S2 rS rS rS K PO zLtS (fSS fun a b => .bl (decide (a < b))) := fun {G H pl x y d e Q post} o hx hy hf hq => by
  obtain ⟨a, b, rfl, rfl, hp⟩ := hf
  exact ⟨a, b, (rs_str (K := K) (pl := pl) (G := G) hx).1, (rs_str (K := K) (pl := pl) (G := G) hy).1, hq _ (.bl _) G H pl (Stp.refl o) (show Rs K pl G _ _ from Rs.bl) hp⟩
theorem s2_leS : S2 rS rS rS K PO zLeS (fSS fun a b => .bl (!decide (b < a))) := fun {G H pl x y d e Q post} o hx hy hf hq => by
  obtain ⟨a, b, rfl, rfl, hp⟩ := hf
  exact ⟨a, b, (rs_str (K := K) (pl := pl) (G := G) hx).1, (rs_str (K := K) (pl := pl) (G := G) hy).1, hq _ (.bl _) G H pl (Stp.refl o) (show Rs K pl G _ _ from Rs.bl) hp⟩
theorem s2_gtS : S2 rS rS rS K PO zGtS (fSS fun a b => .bl (decide (b < a))) := fun {G H pl x y d e Q post} o hx hy hf hq => by
  obtain ⟨a, b, rfl, rfl, hp⟩ := hf
  exact ⟨a, b, (rs_str (K := K) (pl := pl) (G := G) hx).1, (rs_str (K := K) (pl := pl) (G := G) hy).1, hq _ (.bl _) G H pl (Stp.refl o) (show Rs K pl G _ _ from Rs.bl) hp⟩
theorem s2_geS : S2 rS rS rS K PO zGeS (fSS fun a b => .bl (!decide (a < b))) := fun {G H pl x y d e Q post} o hx hy hf hq => by
  obtain ⟨a, b, rfl, rfl, hp⟩ := hf
  exact ⟨a, b, (rs_str (K := K) (pl := pl) (G := G) hx).1, (rs_str (K := K) (pl := pl) (G := G) hy).1, hq _ (.bl _) G H pl (Stp.refl o) (show Rs K pl G _ _ from Rs.bl) hp⟩
/-- one sign in a text -/
def zInC : R2 := fun x y H Q => ∃ (c : Nat) (l : List Nat), x = vS [c] ∧ y = vS l ∧ Q (.bl (decide (c ∈ l))) H
def zNinC : R2 := fun x y H Q => ∃ (c : Nat) (l : List Nat), x = vS [c] ∧ y = vS l ∧ Q (.bl (!decide (c ∈ l))) H
theorem op_inC {X : Cx} : OpR X (compareOp .In) zInC := by
  intro pins s σ H x y v u Q I rx ry h
  obtain ⟨c, l, rfl, rfl, q⟩ := h
  exact op_in_sign pins s σ H _ _ v u Q I rx ry ⟨c, S l, rfl, rfl, q⟩
theorem op_ninC {X : Cx} : OpR X (compareOp .NotIn) zNinC := by
  intro pins s σ H x y v u Q I rx ry h
  obtain ⟨c, l, rfl, rfl, q⟩ := h
  exact op_notIn_sign pins s σ H _ _ v u Q I rx ry ⟨c, S l, rfl, rfl, q⟩
def fInC (n : Bool) : PV → PV → (PV → Prop) → Prop := fun x y post => ∃ c l, x = .str [c] ∧ y = .str l ∧ post (.bl (if n then !decide (c ∈ l) else decide (c ∈ l)))
theorem s2_inC : S2 rS rS rS K PO zInC (fInC false) := fun {G H pl x y d e Q post} o hx hy hf hq => by
  obtain ⟨c, l, rfl, rfl, hp⟩ := hf
  exact ⟨c, l, (rs_str (K := K) (pl := pl) (G := G) hx).1, (rs_str (K := K) (pl := pl) (G := G) hy).1, hq _ (.bl _) G H pl (Stp.refl o) (show Rs K pl G _ _ from Rs.bl) hp⟩
theorem s2_ninC : S2 rS rS rS K PO zNinC (fInC true) := fun {G H pl x y d e Q post} o hx hy hf hq => by
  obtain ⟨c, l, rfl, rfl, hp⟩ := hf
  exact ⟨c, l, (rs_str (K := K) (pl := pl) (G := G) hx).1, (rs_str (K := K) (pl := pl) (G := G) hy).1, hq _ (.bl _) G H pl (Stp.refl o) (show Rs K pl G _ _ from Rs.bl) hp⟩
def fAddS : PV → PV → (PV → Prop) → Prop := fun x y post => ∃ a b, x = .str a ∧ y = .str b ∧ a.length + b.length ≤ 16777216 ∧ post (.str (a ++ b))
theorem s2_addS : S2 rS rS rS K PO zAddS fAddS := fun {G H pl x y d e Q post} o hx hy hf hq => by
  obtain ⟨a, b, rfl, rfl, hz, hp⟩ := hf
  exact ⟨a, b, (rs_str (K := K) (pl := pl) (G := G) hx).1, (rs_str (K := K) (pl := pl) (G := G) hy).1, hz, hq _ (.str (a ++ b)) G H pl (Stp.refl o) (show Rs K pl G _ _ from Rs.str (by rw [List.length_append]; exact hz)) hp⟩
def fMulS : PV → PV → (PV → Prop) → Prop := fun x y post => ∃ (l : List Nat) (n : Int), x = .str l ∧ y = .int n ∧ -100000000 ≤ n ∧ n ≤ 100000000 ∧ l.length * n.toNat ≤ 16777216 ∧ post (.str (rep n l))
theorem s2_mulS : S2 rS rS rS K PO zMulS fMulS := fun {G H pl x y d e Q post} o hx hy hf hq => by
  obtain ⟨l, n, rfl, rfl, h1, h2, hz, hp⟩ := hf
  exact ⟨l, n, (rs_str (K := K) (pl := pl) (G := G) hx).1, rs_int (K := K) (pl := pl) (G := G) hy, h1, h2, hz, hq _ (.str (rep n l)) G H pl (Stp.refl o) (show Rs K pl G _ _ from Rs.str (by rw [rep_len, Nat.mul_comm]; exact hz)) hp⟩
def fIxS : PV → PV → (PV → Prop) → Prop := fun x y post => ∃ l i c, x = .str l ∧ y = .int i ∧ atI l i = some c ∧ post (.str [c])
theorem s2_ixS : S2 rS rS rS K PO zIxS fIxS := fun {G H pl x y d e Q post} o hx hy hf hq => by
  obtain ⟨l, i, c, rfl, rfl, h1, hp⟩ := hf
  obtain ⟨e1, e2⟩ := rs_str (K := K) (pl := pl) (G := G) hx
  exact ⟨l, i, c, e1, rs_int (K := K) (pl := pl) (G := G) hy, e2, h1, hq _ (.str [c]) G H pl (Stp.refl o) (show Rs K pl G _ _ from Rs.str (by simp)) hp⟩
theorem cutLe {α : Type} (l : List α) (lo hi : Option Int) : (cutL l lo hi).length ≤ l.length := by
  unfold cutL
  rw [List.length_take, List.length_drop]
  omega
def fSlS : PV → Option Int → Option Int → (PV → Prop) → Prop := fun x lo hi post => ∃ l, x = .str l ∧ post (.str (cutL l lo hi))
theorem s3_slS : S3 rS rS K PO zSlS fSlS := fun {G H pl x d lo hi Q post} o hx hf hq => by
  obtain ⟨l, rfl, hp⟩ := hf
  obtain ⟨e1, e2⟩ := rs_str (K := K) (pl := pl) (G := G) hx
  exact ⟨l, e1, e2, hq _ (.str _) G H pl (Stp.refl o) (show Rs K pl G _ _ from Rs.str (Nat.le_trans (cutLe l lo hi) e2)) hp⟩
/-! ## None -/
def fIsN (n : Bool) : PV → PV → (PV → Prop) → Prop := fun x y post => y = .non ∧ ((x = .non ∧ post (.bl (!n))) ∨ (x ≠ .non ∧ post (.bl n)))
theorem rs_ne_non {G : Hp} {pl : PL} {d : PV} {v : V} (h : Rs K pl G d v) (hd : d ≠ .non) (hp : d = .pool → ∀ v as, pl = some (v, as) → v ≠ .non) : v ≠ .non := by
  cases d with
  | non => exact absurd rfl hd
  | bl b => rw [rs_bl h]; intro z; cases z
  | int i => rw [rs_int h]; intro z; cases z
  | str l => rw [(rs_str h).1]; intro z; cases z
  | tup ds => obtain ⟨a, xs, rfl, _⟩ := rs_tup h; intro z; cases z
  | lst ds => obtain ⟨a, xs, rfl, _⟩ := rs_lst h; intro z; cases z
  | dK ds => obtain ⟨a, xs, rfl, _⟩ := rs_dK h; intro z; cases z
  | dT ds => obtain ⟨a, xs, rfl, _⟩ := rs_dT h; intro z; cases z
  | ty n => rw [rs_ty h]; intro z; cases z
  | pool => obtain ⟨as, e⟩ := rs_pool h; exact hp rfl v as e
  | obj a => rw [rs_obj h]; intro z; cases z
  | scr ns => obtain ⟨a, rfl, _⟩ := rs_scr h; intro z; cases z
def fIsN' (n : Bool) : PV → PV → (PV → Prop) → Prop := fun x y post => y = .non ∧ x ≠ .pool ∧ ((x = .non ∧ post (.bl (!n))) ∨ (x ≠ .non ∧ post (.bl n)))
theorem s2_isN : S2 rS rS rS K PO isNQ (fIsN' false) := fun {G H pl x y d e Q post} o hx hy hf hq => by
  obtain ⟨rfl, np, hp⟩ := hf
  refine ⟨rs_non (K := K) (pl := pl) (G := G) hy, ?_⟩
  rcases hp with ⟨rfl, hp⟩ | ⟨hn, hp⟩
  · rw [rs_non (K := K) (pl := pl) (G := G) hx]
    exact hq _ (.bl _) G H pl (Stp.refl o) (show Rs K pl G _ _ from Rs.bl) hp
  · have := rs_ne_non (K := K) (pl := pl) (G := G) hx hn (fun z => absurd z np)
    rw [decide_eq_false this]
    exact hq _ (.bl _) G H pl (Stp.refl o) (show Rs K pl G _ _ from Rs.bl) hp
theorem s2_notN : S2 rS rS rS K PO notNQ (fIsN' true) := fun {G H pl x y d e Q post} o hx hy hf hq => by
  obtain ⟨rfl, np, hp⟩ := hf
  refine ⟨rs_non (K := K) (pl := pl) (G := G) hy, ?_⟩
  rcases hp with ⟨rfl, hp⟩ | ⟨hn, hp⟩
  · rw [rs_non (K := K) (pl := pl) (G := G) hx]
    exact hq _ (.bl _) G H pl (Stp.refl o) (show Rs K pl G _ _ from Rs.bl) hp
  · have := rs_ne_non (K := K) (pl := pl) (G := G) hx hn (fun z => absurd z np)
    rw [decide_eq_false this]
    exact hq _ (.bl _) G H pl (Stp.refl o) (show Rs K pl G _ _ from Rs.bl) hp
/-! ## lists, tuples -/
def fIx : List PV → PV → (PV → Prop) → Prop := fun ds y post => ∃ i d, y = .int i ∧ atI ds i = some d ∧ post d
theorem atI_some {α : Type} {xs : List α} {i : Int} {x : α} (h : atI xs i = some x) : ∃ j, ixN xs.length i = some j ∧ xs[j]? = some x := by
  unfold atI at h
  cases e : ixN xs.length i with
  | none => rw [e] at h; cases h
  | some j => rw [e] at h; exact ⟨j, rfl, h⟩
theorem atI_rl {G : Hp} {pl : PL} {ds : List PV} {xs : List V} {i : Int} {d : PV} (r : Rl K pl G ds xs) (h : atI ds i = some d) : ∃ x, atI xs i = some x ∧ Rs K pl G d x := by
  obtain ⟨j, h1, h2⟩ := atI_some h
  obtain ⟨x, h3, h4⟩ := r.get h2
  refine ⟨x, ?_, h4⟩
  unfold atI
  rw [r.len, h1]
  exact h3
theorem s2_ixL : S2 rL rS rS K PO (rIxL K) fIx := fun {G H pl x y d e Q post} o hx hy hf hq => by
  obtain ⟨i, c, rfl, h1, hp⟩ := hf
  obtain ⟨a, xs, rfl, k1, k2, k3, k4⟩ := hx
  obtain ⟨z, z1, z2⟩ := atI_rl k3 h1
  exact ⟨a, xs, i, z, rfl, rs_int (K := K) (pl := pl) (G := G) hy, SqL.of k1, z1, hq z c G H pl (Stp.refl o) z2 hp⟩
def fIxT : PV → PV → (PV → Prop) → Prop := fun x y post => ∃ ds i d, x = .tup ds ∧ y = .int i ∧ atI ds i = some d ∧ post d
theorem s2_ixT : S2 rS rS rS K PO (rIxT K) fIxT := fun {G H pl x y d e Q post} o hx hy hf hq => by
  obtain ⟨ds, i, c, rfl, rfl, h1, hp⟩ := hf
  obtain ⟨a, xs, rfl, k1, k2, k3⟩ := rs_tup (K := K) (pl := pl) (G := G) hx
  obtain ⟨z, z1, z2⟩ := atI_rl k2 h1
  exact ⟨a, xs, i, z, rfl, rs_int (K := K) (pl := pl) (G := G) hy, o.sub.sqT k1, z1, hq z c G H pl (Stp.refl o) z2 hp⟩
/-- x[i], x a list, a tuple or a text -/
def fIxA : PV → PV → (PV → Prop) → Prop := fun x y post => (∃ ds i d, (x = .tup ds ∨ x = .lst ds) ∧ y = .int i ∧ atI ds i = some d ∧ post d) ∨ fIxS x y post
theorem s2_ixA : S2 rS rS rS K PO (rIx K) fIxA := fun {G H pl x y d e Q post} o hx hy hf hq => by
  rcases hf with ⟨ds, i, c, h0, rfl, h1, hp⟩ | ⟨l, i, c, rfl, rfl, h1, hp⟩
  · rcases h0 with rfl | rfl
    · obtain ⟨a, xs, rfl, k1, k2, k3⟩ := rs_tup (K := K) (pl := pl) (G := G) hx
      obtain ⟨z, z1, z2⟩ := atI_rl k2 h1
      exact .inr (.inl ⟨a, xs, i, z, rfl, rs_int (K := K) (pl := pl) (G := G) hy, o.sub.sqT k1, z1, hq z c G H pl (Stp.refl o) z2 hp⟩)
    · obtain ⟨a, xs, rfl, k1, k2, k3⟩ := rs_lst (K := K) (pl := pl) (G := G) hx
      obtain ⟨z, z1, z2⟩ := atI_rl k2 h1
      exact .inl ⟨a, xs, i, z, rfl, rs_int (K := K) (pl := pl) (G := G) hy, SqL.of (o.sub _ _ k1), z1, hq z c G H pl (Stp.refl o) z2 hp⟩
  · obtain ⟨e1, e2⟩ := rs_str (K := K) (pl := pl) (G := G) hx
    exact .inr (.inr ⟨S l, i, c, e1, rs_int (K := K) (pl := pl) (G := G) hy, by rw [S_len, line_eq]; exact e2, h1, hq _ (.str [c]) G H pl (Stp.refl o) (show Rs K pl G _ _ from Rs.str (by simp)) hp⟩)
/-- of a list of lists that a name owns -/
def fIxLL : List (List PV) → PV → (List PV → Prop) → Prop := fun dss y post => ∃ i ds, y = .int i ∧ atI dss i = some ds ∧ post ds
theorem s2_ixLL : S2 rLL rS rL K PO (rIxL K) fIxLL := fun {G H pl x y d e Q post} o hx hy hf hq => by
  obtain ⟨i, ds, rfl, h1, hp⟩ := hf
  obtain ⟨a, as, rfl, k1, k2, k3, k4⟩ := hx
  obtain ⟨j, h2, h3⟩ := atI_some h1
  have hj : j < as.length := by rw [k3]; exact (List.getElem?_eq_some_iff.mp h3).1
  obtain ⟨xs, w1, w2, w3, w4⟩ := k4 j as[j] ds (List.getElem?_eq_getElem hj) h3
  refine ⟨a, _, i, .ref as[j], rfl, rs_int (K := K) (pl := pl) (G := G) hy, SqL.of k1, ?_, hq (.ref as[j]) ds G H pl (Stp.refl o) ⟨as[j], xs, rfl, w1, w2, w3, w4⟩ hp⟩
  unfold atI
  rw [List.length_map, k3, h2]
  exact at_map (List.getElem?_eq_getElem hj)
theorem Rl.cut {G : Hp} {pl : PL} {ds : List PV} {xs : List V} (h : Rl K pl G ds xs) (lo hi : Option Int) : Rl K pl G (cutL ds lo hi) (cutL xs lo hi) := by
  unfold cutL
  rw [h.len]
  exact (h.drop _).take _
def fSlL : List PV → Option Int → Option Int → (Vl → Prop) → Prop := fun ds lo hi post => post (.ol (cutL ds lo hi))
theorem s3_slL : S3O rL K PO (rSlL K) fSlL := fun {G H pl x d lo hi Q post} o hx hf hq => by
  obtain ⟨a, xs, rfl, k1, k2, k3, k4⟩ := hx
  exact ⟨a, xs, rfl, SqL.of k1, fun p hp => so_lst o (k3.cut lo hi) (Nat.le_trans (cutLe d lo hi) k4) hf hq hp⟩
def fSlT : PV → Option Int → Option Int → (PV → Prop) → Prop := fun x lo hi post => ∃ ds, x = .tup ds ∧ post (.tup (cutL ds lo hi))
theorem s3_slT : S3 rS rS K PO (rSlA K) fSlT := fun {G H pl x d lo hi Q post} o hx hf hq => by
  obtain ⟨ds, rfl, hp⟩ := hf
  obtain ⟨a, xs, rfl, k1, k2, k3⟩ := rs_tup (K := K) (pl := pl) (G := G) hx
  have hl := k2.len
  refine ⟨a, xs, rfl, o.sub.sqT k1, fun hw => ?_, fun hw p hp' => ?_⟩
  · have e : cutL ds lo hi = ds := by
      unfold cutL
      rw [← hl, hw.1, hw.2, List.drop_zero, Nat.sub_zero, hl, List.take_length]
    rw [e] at hp
    exact hq _ (.tup ds) G H pl (Stp.refl o) hx hp
  · have s := Stp.new (u := .tup (cutV xs lo hi)) o hp'
    exact hq _ (.tup (cutL ds lo hi)) _ _ pl s (show Rs K pl _ _ _ from Rs.tup upd_same (Rl.mono s.g s.le _ _ (k2.cut lo hi)) (Nat.le_trans (cutLe ds lo hi) k3)) hp
def fCat : List PV → List PV → (Vl → Prop) → Prop := fun a b post => a.length + b.length ≤ 16777216 ∧ post (.ol (a ++ b))
theorem s2_cat : S2O rL rL K PO rCat fCat := fun {G H pl x y d e Q post} o hx hy hf hq => by
  obtain ⟨hz, hp⟩ := hf
  obtain ⟨a, xs, rfl, k1, k2, k3, k4⟩ := hx
  obtain ⟨b, ys, rfl, l1, l2, l3, l4⟩ := hy
  exact ⟨a, b, xs, ys, rfl, rfl, k1, l1, by rw [k3.len, l3.len, line_eq]; exact hz, fun p hp' => so_lst o (k3.app l3) (by rw [List.length_append]; exact hz) hp hq hp'⟩
def fRep : List PV → PV → (Vl → Prop) → Prop := fun ds y post => ∃ n : Int, y = .int n ∧ -100000000 ≤ n ∧ n ≤ 100000000 ∧ ds.length * n.toNat ≤ 16777216 ∧ post (.ol (rep n ds))
theorem s2_rep : S2O rL rS K PO rRep fRep := fun {G H pl x y d e Q post} o hx hy hf hq => by
  obtain ⟨n, rfl, h1, h2, hz, hp⟩ := hf
  obtain ⟨a, xs, rfl, k1, k2, k3, k4⟩ := hx
  refine ⟨a, n, xs, rfl, rs_int (K := K) (pl := pl) (G := G) hy, k1, by omega, by omega, by rw [k3.len, line_eq]; exact hz, fun p hp' => so_lst o (k3.reps n.toNat) ?_ hp hq hp'⟩
  show (rep n d).length ≤ _
  rw [rep_len, Nat.mul_comm]
  exact hz
def fCatT : PV → PV → (PV → Prop) → Prop := fun x y post => ∃ a b, x = .tup a ∧ y = .tup b ∧ a.length + b.length ≤ 16777216 ∧ post (.tup (a ++ b))
theorem s2_catT : S2 rS rS rS K PO (rCatA K) fCatT := fun {G H pl x y d e Q post} o hx hy hf hq => by
  obtain ⟨da, db, rfl, rfl, hz, hp⟩ := hf
  obtain ⟨a, xs, rfl, k1, k2, k3⟩ := rs_tup (K := K) (pl := pl) (G := G) hx
  obtain ⟨b, ys, rfl, l1, l2, l3⟩ := rs_tup (K := K) (pl := pl) (G := G) hy
  refine ⟨a, b, xs, ys, rfl, rfl, o.sub.sqT k1, o.sub.sqT l1, by rw [k2.len, l2.len, line_eq]; exact hz, fun e => ?_, fun _ e => ?_, fun _ _ p hp' => ?_⟩
  · subst e
    have hd : da = [] := List.eq_nil_of_length_eq_zero k2.len.symm
    subst hd
    exact hq _ (.tup db) G H pl (Stp.refl o) hy hp
  · subst e
    have hd : db = [] := List.eq_nil_of_length_eq_zero l2.len.symm
    subst hd
    rw [List.append_nil] at hp
    exact hq _ (.tup da) G H pl (Stp.refl o) hx hp
  · have s := Stp.new (u := .tup (xs ++ ys)) o hp'
    exact hq _ (.tup (da ++ db)) _ _ pl s (show Rs K pl _ _ _ from Rs.tup upd_same (Rl.mono s.g s.le _ _ (k2.app l2)) (by rw [List.length_append]; exact hz)) hp
/-! ## the script -/
def fIxScr : PV → PV → (PV → Prop) → Prop := fun x y post => ∃ ns i z, x = .scr ns ∧ y = .int i ∧ atI ns i = some z ∧ post (.int z)
theorem atI_map {α : Type} {f : α → V} {xs : List α} {i : Int} {x : α} (h : atI xs i = some x) : atI (xs.map f) i = some (f x) := by
  obtain ⟨j, h1, h2⟩ := atI_some h
  unfold atI
  rw [List.length_map, h1]
  exact at_map h2
theorem s2_ixScr : S2 rS rS rS K PO (rIxL K) fIxScr := fun {G H pl x y d e Q post} o hx hy hf hq => by
  obtain ⟨ns, i, z, rfl, rfl, h1, hp⟩ := hf
  obtain ⟨a, rfl, k1, _⟩ := rs_scr (K := K) (pl := pl) (G := G) hx
  exact ⟨a, ns.map V.int, i, .int z, rfl, rs_int (K := K) (pl := pl) (G := G) hy, o.sub.sqL k1, atI_map h1, hq _ (.int z) G H pl (Stp.refl o) (show Rs K pl G _ _ from Rs.int) hp⟩
def fSlScr : PV → Option Int → Option Int → (Vl → Prop) → Prop := fun x lo hi post => ∃ ns, x = .scr ns ∧ post (.ol ((cutL ns lo hi).map .int))
theorem s3_slScr : S3O rS K PO (rSlL K) fSlScr := fun {G H pl x d lo hi Q post} o hx hf hq => by
  obtain ⟨ns, rfl, hp⟩ := hf
  obtain ⟨a, rfl, k1, k2⟩ := rs_scr (K := K) (pl := pl) (G := G) hx
  refine ⟨a, ns.map V.int, rfl, o.sub.sqL k1, fun p hp' => ?_⟩
  have e : cutV (ns.map V.int) lo hi = (cutL ns lo hi).map V.int := cutV_map V.int ns lo hi
  rw [e]
  exact so_lst o (rl_ints _) (by rw [List.length_map]; exact Nat.le_trans (cutLe ns lo hi) k2) hp hq hp'
def fLenScr : PV → (PV → Prop) → Prop := fun x post => ∃ ns, x = .scr ns ∧ post (.int (ns.length : Nat))
theorem s1_lenScr : S1 rS rS K PO (zLenQ K) fLenScr := fun {G H pl x d Q post} o hx hf hq => by
  obtain ⟨ns, rfl, hp⟩ := hf
  obtain ⟨a, rfl, k1, k2⟩ := rs_scr (K := K) (pl := pl) (G := G) hx
  refine ⟨a, ns.map V.int, rfl, .inl (o.sub.sqL k1), ?_⟩
  rw [List.length_map]
  exact hq _ (.int _) G H pl (Stp.refl o) (show Rs K pl G _ _ from Rs.int) hp
/-! ## built-ins -/
def fLenS : PV → (PV → Prop) → Prop := fun x post => ∃ l : List Nat, x = .str l ∧ post (.int l.length)
theorem s1_lenS : S1 rS rS K PO zLenS fLenS := fun {G H pl x d Q post} o hx hf hq => by
  obtain ⟨l, rfl, hp⟩ := hf
  obtain ⟨rfl, e2⟩ := rs_str (K := K) (pl := pl) (G := G) hx
  exact ⟨l, rfl, e2, hq _ (.int _) G H pl (Stp.refl o) (show Rs K pl G _ _ from Rs.int) hp⟩
def fLen : List PV → (PV → Prop) → Prop := fun ds post => post (.int ds.length)
theorem s1_len : S1 rQ rS K PO (zLenQ K) fLen := fun {G H pl x d Q post} o hx hf hq => by
  obtain ⟨a, xs, rfl, k1, k2, k3⟩ := hx
  refine ⟨a, xs, rfl, seq_of o k1, ?_⟩
  rw [k2.len]
  exact hq _ (.int _) G H pl (Stp.refl o) (show Rs K pl G _ _ from Rs.int) hf
def fInt : PV → (PV → Prop) → Prop := fun x post => ∃ i, x = .int i ∧ post (.int i)
theorem s1_int : S1 rS rS K PO zInt1 fInt := fun {G H pl x d Q post} o hx hf hq => by
  obtain ⟨i, rfl, hp⟩ := hf
  rw [rs_int (K := K) (pl := pl) (G := G) hx]
  exact ⟨i, rfl, hq _ (.int i) G H pl (Stp.refl o) (show Rs K pl G _ _ from Rs.int) hp⟩
def fIntB : PV → (PV → Prop) → Prop := fun x post => ∃ b, x = .bl b ∧ post (.int (if b then 1 else 0))
theorem s1_intB : S1 rS rS K PO zIntB fIntB := fun {G H pl x d Q post} o hx hf hq => by
  obtain ⟨b, rfl, hp⟩ := hf
  rw [rs_bl (K := K) (pl := pl) (G := G) hx]
  exact ⟨b, rfl, hq _ (.int _) G H pl (Stp.refl o) (show Rs K pl G _ _ from Rs.int) hp⟩
def fAbs : PV → (PV → Prop) → Prop := fun x post => ∃ i : Int, x = .int i ∧ post (.int i.natAbs)
theorem s1_abs : S1 rS rS K PO zAbs fAbs := fun {G H pl x d Q post} o hx hf hq => by
  obtain ⟨i, rfl, hp⟩ := hf
  rw [rs_int (K := K) (pl := pl) (G := G) hx]
  exact ⟨i, rfl, hq _ (.int _) G H pl (Stp.refl o) (show Rs K pl G _ _ from Rs.int) hp⟩
def fMin2 : List PV → (PV → Prop) → Prop := fun ds post => ∃ i j : Int, ds = [.int i, .int j] ∧ post (.int (min i j))
theorem sn_min : SN K PO zMin2 fMin2 := fun {G H pl xs ds Q post} o hx hf hq => by
  obtain ⟨i, j, rfl, hp⟩ := hf
  obtain ⟨x, r, rfl, h1, h2⟩ := rl_cons hx
  obtain ⟨y, r, rfl, h3, h4⟩ := rl_cons h2
  rw [rs_int h1, rs_int h3, rl_nil h4]
  exact ⟨i, j, rfl, hq _ (.int _) G H pl (Stp.refl o) Rs.int hp⟩
def zMax2 : List V → Hp → VK → Prop := fun xs H Q => ∃ i j : Int, xs = [.int i, .int j] ∧ Q (.int (max i j)) H
theorem call_maxI {X : Cx} (hc : X.calm = true) : CallR X (.builtin "max") zMax2 := by
  intro pins s σ H xs us Q I r h
  obtain ⟨i, j, rfl, q⟩ := h
  refine call_max2 hc pins s σ H _ us Q I r ⟨i, j, rfl, ?_⟩
  have e : (if j > i then j else i) = max i j := by
    split <;> omega
  rw [e]
  exact q
def fMax2 : List PV → (PV → Prop) → Prop := fun ds post => ∃ i j : Int, ds = [.int i, .int j] ∧ post (.int (max i j))
theorem sn_max : SN K PO zMax2 fMax2 := fun {G H pl xs ds Q post} o hx hf hq => by
  obtain ⟨i, j, rfl, hp⟩ := hf
  obtain ⟨x, r, rfl, h1, h2⟩ := rl_cons hx
  obtain ⟨y, r, rfl, h3, h4⟩ := rl_cons h2
  rw [rs_int h1, rs_int h3, rl_nil h4]
  exact ⟨i, j, rfl, hq _ (.int _) G H pl (Stp.refl o) Rs.int hp⟩
def fSum : List PV → (PV → Prop) → Prop := fun ds post => ∃ ns : List Int, ds = ns.map .int ∧ post (.int ns.sum)
theorem s1_sum : S1 rL rS K PO (rSum K) fSum := fun {G H pl x d Q post} o hx hf hq => by
  obtain ⟨ns, rfl, hp⟩ := hf
  obtain ⟨a, xs, rfl, k1, k2, k3, k4⟩ := hx
  rw [rl_int k3] at k1
  exact ⟨a, ns, rfl, SqL.of k1, hq _ (.int _) G H pl (Stp.refl o) (show Rs K pl G _ _ from Rs.int) hp⟩
def fMaxL : List PV → (PV → Prop) → Prop := fun ds post => ∃ ns : List Int, ds = ns.map .int ∧ 0 < ns.length ∧ ∀ m, m ∈ ns → (∀ y ∈ ns, y ≤ m) → post (.int m)
theorem s1_maxL : S1 rL rS K PO (rMax K) fMaxL := fun {G H pl x d Q post} o hx hf hq => by
  obtain ⟨ns, rfl, h0, hp⟩ := hf
  obtain ⟨a, xs, rfl, k1, k2, k3, k4⟩ := hx
  rw [rl_int k3] at k1
  exact ⟨a, ns, rfl, SqL.of k1, h0, fun m hm hall => hq _ (.int _) G H pl (Stp.refl o) (show Rs K pl G _ _ from Rs.int) (hp m hm hall)⟩
def fMinL : List PV → (PV → Prop) → Prop := fun ds post => ∃ ns : List Int, ds = ns.map .int ∧ 0 < ns.length ∧ ∀ m, m ∈ ns → (∀ y ∈ ns, m ≤ y) → post (.int m)
theorem s1_minL : S1 rL rS K PO (rMin K) fMinL := fun {G H pl x d Q post} o hx hf hq => by
  obtain ⟨ns, rfl, h0, hp⟩ := hf
  obtain ⟨a, xs, rfl, k1, k2, k3, k4⟩ := hx
  rw [rl_int k3] at k1
  exact ⟨a, ns, rfl, SqL.of k1, h0, fun m hm hall => hq _ (.int _) G H pl (Stp.refl o) (show Rs K pl G _ _ from Rs.int) (hp m hm hall)⟩
def fSortI : List PV → (Vl → Prop) → Prop := fun ds post => ∃ ns : List Int, ds = ns.map .int ∧ ∀ ms : List Int, ms.Perm ns → ms.Pairwise (· ≤ ·) → post (.ol (ms.map .int))
theorem s1_sortI : S1O rL K PO (rSortedI K) fSortI := fun {G H pl x d Q post} o hx hf hq => by
  obtain ⟨ns, rfl, hp⟩ := hf
  obtain ⟨a, xs, rfl, k1, k2, k3, k4⟩ := hx
  rw [rl_int k3] at k1
  refine ⟨a, ns, rfl, SqL.of k1, fun ms p h1 h2 hp' => so_lst o (rl_ints ms) ?_ (hp ms h1 h2) hq hp'⟩
  rw [List.length_map, h1.length_eq]
  rwa [List.length_map] at k4
def fSortS : List PV → (Vl → Prop) → Prop := fun ds post => ∃ ls : List (List Nat), ds = ls.map .str ∧ ls.length < 64 ∧ ∀ ms : List (List Nat), ms.Perm ls → sortedS (ms.map S) = true → post (.ol (ms.map .str))
theorem s1_sortS : S1O rL K PO (zSortedS K) fSortS := fun {G H pl x d Q post} o hx hf hq => by
  obtain ⟨ls, rfl, h64, hp⟩ := hf
  obtain ⟨a, xs, rfl, k1, k2, k3, k4⟩ := hx
  have hl := rl_str_len k3
  rw [rl_str k3] at k1
  refine ⟨a, ls, rfl, SqL.of k1, h64, fun ms p h1 h2 hp' => so_lst o (rl_strs ms fun l hl' => hl l (h1.mem_iff.mp hl')) ?_ (hp ms h1 h2) hq hp'⟩
  rw [List.length_map, h1.length_eq]
  rwa [List.length_map] at k4
def fTupL : List PV → (PV → Prop) → Prop := fun ds post => post (.tup ds)
theorem s1_tupL : S1 rL rS K PO (zTupL K) fTupL := fun {G H pl x d Q post} o hx hf hq => by
  obtain ⟨a, xs, rfl, k1, k2, k3, k4⟩ := hx
  refine ⟨a, xs, rfl, SqL.of k1, fun p hp' => ?_⟩
  have s := Stp.new (u := .tup xs) o hp'
  exact hq _ (.tup d) _ _ pl s (show Rs K pl _ _ _ from Rs.tup upd_same (Rl.mono s.g s.le _ _ k3) k4) hf
def fListQ : List PV → (Vl → Prop) → Prop := fun ds post => post (.ol ds)
theorem s1_listQ : S1O rQ K PO (zListT K) fListQ := fun {G H pl x d Q post} o hx hf hq => by
  obtain ⟨a, xs, rfl, k1, k2, k3⟩ := hx
  exact ⟨a, xs, rfl, seq_of o k1, fun p hp' => so_lst o k2 k3 hf hq hp'⟩
def fListS : PV → (Vl → Prop) → Prop := fun x post => ∃ l : List Nat, x = .str l ∧ post (.ol (l.map fun c => .str [c]))
theorem s1_listS : S1O rS K PO zListS fListS := fun {G H pl x d Q post} o hx hf hq => by
  obtain ⟨l, rfl, hp⟩ := hf
  obtain ⟨rfl, e2⟩ := rs_str (K := K) (pl := pl) (G := G) hx
  exact ⟨l, rfl, e2, fun p hp' => so_lst o (Rl.map fun c _ => Rs.str (by simp)) (by rw [List.length_map]; exact e2) hp hq hp'⟩
/-- sep.join(texts) with the empty text -/
def fJoin0 : List Nat → List PV → (PV → Prop) → Prop := fun s ds post => s = [] ∧ ∃ ls : List (List Nat), ds = ls.map .str ∧ ls.flatten.length ≤ 16777216 ∧ post (.str ls.flatten)
theorem sm_join0 : SM1 rQ K PO (zJoin0 K) fJoin0 := fun {G H pl l y e Q post} o hl hy hf hq => by
  obtain ⟨rfl, ls, rfl, hz, hp⟩ := hf
  obtain ⟨a, xs, rfl, k1, k2, k3⟩ := hy
  rw [rl_str k2] at k1
  exact ⟨a, ls, rfl, rfl, seq_of o k1, hz, hq _ (.str _) G H pl (Stp.refl o) (Rs.str hz) hp⟩
def fFind1 : List Nat → PV → (PV → Prop) → Prop := fun l y post => ∃ c, y = .str [c] ∧ c ∈ l ∧ post (.int (l.idxOf c : Nat))
theorem sm_find1 : SM1 rS K PO zFind1 fFind1 := fun {G H pl l y e Q post} o hl hy hf hq => by
  obtain ⟨c, rfl, hc, hp⟩ := hf
  rw [(rs_str (K := K) (pl := pl) (G := G) hy).1]
  exact ⟨l, c, rfl, rfl, hc, hq _ (.int _) G H pl (Stp.refl o) Rs.int hp⟩
def fUpper : List Nat → (PV → Prop) → Prop := fun l post => l.length ≤ 100000 ∧ (∀ c ∈ l, c ∈ alphaU) ∧ ∀ l' : List Nat, l'.length = l.length → post (.str l')
theorem sm_upper : SM0 K PO zUpper fUpper := fun {G H pl l Q post} o hl hf hq => by
  obtain ⟨h1, h2, hp⟩ := hf
  exact ⟨l, rfl, rfl, h1, h2, fun l' h' => hq _ (.str l') G H pl (Stp.refl o) (Rs.str (by rw [h']; exact hl)) (hp l' h')⟩
/-! ## in -/
theorem flat_Is (bs : List Int) : (bs.map V.int).all flatV = true := by
  rw [List.all_eq_true]
  intro x hx
  obtain ⟨b, _, rfl⟩ := List.mem_map.mp hx
  rfl
theorem inV_Z (a : Int) (bs : List Int) : inV (V.int a) (bs.map V.int) = decide (a ∈ bs) := by
  induction bs with
  | nil => rfl
  | cons b r ih =>
    show (eqV (V.int b) (V.int a) || inV (V.int a) (r.map V.int)) = _
    rw [ih]
    have e : eqV (V.int b) (V.int a) = decide (b = a) := by
      show (b == a) = _
      by_cases h : b = a
      · subst h; simp
      · simp [h]
    rw [e]
    by_cases h : b = a
    · subst h; simp
    · have h' : ¬ a = b := fun e => h e.symm
      rw [decide_eq_false h]
      simp [h']
def fIn (n : Bool) : PV → List PV → (PV → Prop) → Prop := fun x ds post => (∃ (a : List Nat) (bs : List (List Nat)), x = .str a ∧ ds = bs.map .str ∧ post (.bl (if n then !decide (a ∈ bs) else decide (a ∈ bs)))) ∨ (∃ (a : Int) (bs : List Int), x = .int a ∧ ds = bs.map .int ∧ post (.bl (if n then !decide (a ∈ bs) else decide (a ∈ bs))))
theorem s2_in (n : Bool) : S2 rS rQ rS K PO (rIn K n) (fIn n) := fun {G H pl x y d e Q post} o hx hy hf hq => by
  obtain ⟨p, xs, rfl, k1, k2, k3⟩ := hy
  rcases hf with ⟨a, bs, rfl, rfl, hp⟩ | ⟨a, bs, rfl, rfl, hp⟩
  · rw [(rs_str (K := K) (pl := pl) (G := G) hx).1]
    rw [rl_str k2] at k1
    refine ⟨p, bs.map vS, rfl, seq_of o k1, rfl, flat_S bs, ?_⟩
    rw [inV_S]
    exact hq _ (.bl _) G H pl (Stp.refl o) (show Rs K pl G _ _ from Rs.bl) hp
  · rw [rs_int (K := K) (pl := pl) (G := G) hx]
    rw [rl_int k2] at k1
    refine ⟨p, bs.map V.int, rfl, seq_of o k1, rfl, flat_Is bs, ?_⟩
    rw [inV_Z]
    exact hq _ (.bl _) G H pl (Stp.refl o) (show Rs K pl G _ _ from Rs.bl) hp
/-! ## isinstance -/
def PV.cls : PV → String
  | .non => "NoneType" | .bl _ => "bool" | .int _ => "int" | .str _ => "str" | .tup _ => "tuple" | .lst _ => "list" | .dK _ => "dict" | .dT _ => "dict" | .ty _ => "type" | .pool => "list" | .obj _ => "object" | .scr _ => "list"
def fIsi : List PV → (PV → Prop) → Prop := fun ds post => ∃ d n b, ds = [d, .ty n] ∧ (∀ m, d ≠ .ty m) ∧ (∀ k, d ≠ .dK k) ∧ (∀ k, d ≠ .dT k) ∧ d ≠ .pool ∧ (∀ a, d ≠ .obj a) ∧ (∀ ns, d ≠ .scr ns) ∧ kitB d.cls n = some b ∧ post (.bl b)
theorem sn_isi : SN K PO (rIsi K) fIsi := fun {G H pl xs ds Q post} o hx hf hq => by
  obtain ⟨d, n, b, rfl, n1, n2, n3, n4, n5, n6, hk, hp⟩ := hf
  obtain ⟨x, r, rfl, h1, h2⟩ := rl_cons hx
  obtain ⟨y, r, rfl, h3, h4⟩ := rl_cons h2
  rw [rs_ty h3, rl_nil h4]
  refine w_isi (t := d.cls) ?_ hk (hq _ (.bl b) G H pl (Stp.refl o) Rs.bl hp)
  cases d with
  | non => rw [rs_non h1]; exact .base .non
  | bl b => rw [rs_bl h1]; exact .base (.bl b)
  | int i => rw [rs_int h1]; exact .base (.int i)
  | str l => rw [(rs_str h1).1]; exact .base (.str _)
  | tup ds =>
    obtain ⟨a, xs, rfl, k1, _⟩ := rs_tup h1
    exact tyX_T (o.sub.sqT k1)
  | lst ds =>
    obtain ⟨a, xs, rfl, k1, _⟩ := rs_lst h1
    exact .base (.lst (o.sub _ _ k1))
  | dK ds => exact absurd rfl (n2 ds)
  | dT ds => exact absurd rfl (n3 ds)
  | ty m => exact absurd rfl (n1 m)
  | pool => exact absurd rfl n4
  | obj a => exact absurd rfl (n5 a)
  | scr ns => exact absurd rfl (n6 ns)
/-! ## truth -/
def tru : PV → Option Bool
  | .non => some false | .bl b => some b | .int i => some (!decide (i = 0)) | .str l => some (!l.isEmpty) | .tup l => some (!l.isEmpty) | _ => none
def pTru (p : PX PV) : PX Bool := fun ρ post => p ρ fun d => ∃ k, tru d = some k ∧ post k
theorem st_tru {t : TE} {p : PX PV} (h : SX rS K PO t p) : ST K PO (tTru K t) (pTru p) := fun {B G0 G H pl σ ρ Q post} r hp hq => h r hp fun v d G1 H1 pl1 s1 hd hp1 => by
  obtain ⟨k, hk, hp2⟩ := hp1
  have fin := hq k G1 H1 pl1 s1 hp2
  cases d with
  | non => cases hk; rw [rs_non (K := K) (pl := pl1) (G := G1) hd]; exact ⟨_, rfl, fin⟩
  | bl b => cases hk; rw [rs_bl (K := K) (pl := pl1) (G := G1) hd]; exact ⟨_, rfl, fin⟩
  | int i => cases hk; rw [rs_int (K := K) (pl := pl1) (G := G1) hd]; exact w_truI fin
  | str l =>
    cases hk
    obtain ⟨rfl, e2⟩ := rs_str (K := K) (pl := pl1) (G := G1) hd
    exact w_truS e2 fin
  | tup l =>
    cases hk
    obtain ⟨a, xs, rfl, k1, k2, _⟩ := rs_tup (K := K) (pl := pl1) (G := G1) hd
    have e : l.isEmpty = xs.isEmpty := by
      have := k2.len
      cases l <;> cases xs <;> simp at this ⊢
    rw [e] at fin
    exact w_truT (s1.ok.sub.sqT k1) fin
  | lst l => cases hk
  | dK l => cases hk
  | dT l => cases hk
  | ty n => cases hk
  | pool => cases hk
  | obj a => cases hk
  | scr ns => cases hk
theorem qt_tru {X : Cx} {e : Expr} {t : TE} {p : PX PV} (hK : X.K = K) (h : QX rS K PO X e t p) (he : ∀ whole, isTrue e X.env whole = (do let v ← whole; standAt e.pos; holding [v] (truthy v)) := by intro _; rfl) : QT K PO X e (tTru K t) (pTru p) := by
  subst hK
  exact ⟨pt_tru h.pe he, st_tru h.sd⟩
def pTruL (p : PX (List PV)) : PX Bool := fun ρ post => p ρ fun ds => post (!ds.isEmpty)
theorem qt_truL {X : Cx} {e : Expr} {t : TE} {p : PX (List PV)} (hK : X.K = K) (h : QX rL K PO X e t p) (he : ∀ whole, isTrue e X.env whole = (do let v ← whole; standAt e.pos; holding [v] (truthy v)) := by intro _; rfl) : QT K PO X e (tTru K t) (pTruL p) := by
  subst hK
  refine ⟨pt_tru h.pe he, fun {B G0 G H pl σ ρ Q post} r hp hq => h.sd r hp fun v d G1 H1 pl1 s1 hd hp1 => ?_⟩
  obtain ⟨a, xs, rfl, k1, k2, k3, k4⟩ := hd
  have fin := hq _ G1 H1 pl1 s1 hp1
  have e : d.isEmpty = xs.isEmpty := by
    have := k3.len
    cases d <;> cases xs <;> simp at this ⊢
  rw [e] at fin
  exact w_truL (SqL.of k1) fin
def pNotT (p : PX Bool) : PX PV := fun ρ post => p ρ fun c => post (.bl (!c))
end

/-! ## what is walked -/
section
variable {K : PySem.W.Frag} {PO : POk} {X : Cx} {tg : Expr}
theorem frz_fol {G H : Hp} {pl : PL} {J : It} {ds : List PV} (h : IterOk K PO (Frz G pl) J ds) : IterOk K PO (Fol PO G H pl) J ds := fun i G' H' pl' o s => h i G' H' pl' o ⟨s.g, s.le⟩
theorem qic_of {e : Expr} {wi : TI} {p : PX (List PV)} (h : QI K PO X tg e wi p) : QIc K PO X tg e wi p :=
  ⟨h.pe, fun r hp hq => h.sd r hp fun J ds G' H' pl' s it hl hp1 => hq J ds G' H' pl' s (frz_fol it) hl hp1⟩
/-- every item as the heap is -/
theorem iter_plain {L : Hp → Hp → PL → Prop} {J : It} {ds : List PV} (h : ∀ (i : Nat) (G H : Hp) (pl : PL), Ok PO G H pl → L G H pl → (i = ds.length → J.stop i H) ∧ ∀ d, ds[i]? = some d → J.go i H ∧ ∀ x H', J.yld i H x H' → H' = H ∧ Rs K pl G d x) : IterOk K PO L J ds := fun i G H pl o hl => by
  obtain ⟨h1, h2⟩ := h i G H pl o hl
  refine ⟨h1, fun d e => ⟨(h2 d e).1, fun x H' y => ?_⟩⟩
  obtain ⟨rfl, hr⟩ := (h2 d e).2 x H' y
  exact ⟨G, Stp.refl o, hr⟩
theorem iter_list {L : Hp → Hp → PL → Prop} {a : Addr} {ds : List PV} (h : ∀ G H pl, Ok PO G H pl → L G H pl → ∃ xs, SqL K H a xs ∧ Rl K pl G ds xs) : IterOk K PO L (Itl K a) ds := iter_plain fun i G H pl o hl => by
  obtain ⟨xs, h1, h2⟩ := h G H pl o hl
  refine ⟨fun e => ⟨xs, h1, by rw [h2.len]; omega⟩, fun d e => ?_⟩
  obtain ⟨x, e1, e2⟩ := h2.get e
  refine ⟨⟨xs, x, h1, e1⟩, fun y H' q => ?_⟩
  obtain ⟨rfl, q⟩ := q
  have := q xs h1
  rw [e1] at this
  cases this
  exact ⟨rfl, e2⟩
def pSrcL (p : PX PV) : PX (List PV) := fun ρ post => p ρ fun d => ∃ ds, d = .lst ds ∧ (ds.length ≤ 16777216 → post ds)
theorem qi_list {e : Expr} {t : TE} {p : PX PV} (hK : X.K = K) (h : QX rS K PO X e t p) : QI K PO X tg e (iList K t) (pSrcL p) := by
  subst hK
  refine ⟨pi_list h.pe, fun {B G0 G H pl σ ρ R post} r hp hq => h.sd r hp fun v d G1 H1 pl1 s1 hd hp1 => ?_⟩
  obtain ⟨ds, rfl, hp1⟩ := hp1
  obtain ⟨a, xs, rfl, k1, k2, k3⟩ := rs_lst (K := X.K) (pl := pl1) (G := G1) hd
  exact ⟨a, rfl, ⟨xs, SqL.of (s1.ok.sub _ _ k1)⟩, hq _ ds G1 H1 pl1 s1 (iter_list fun G2 H2 pl2 o2 l2 => ⟨xs, SqL.of (o2.sub _ _ (l2.1 _ _ k1)), Rl.mono l2.1 l2.2 _ _ k2⟩) (by omega) (hp1 k3)⟩
def pSrcScr (p : PX PV) : PX (List PV) := fun ρ post => p ρ fun d => ∃ ns, d = .scr ns ∧ (ns.length ≤ 16777216 → post (ns.map .int))
theorem qi_scr {e : Expr} {t : TE} {p : PX PV} (hK : X.K = K) (h : QX rS K PO X e t p) : QI K PO X tg e (iList K t) (pSrcScr p) := by
  subst hK
  refine ⟨pi_list h.pe, fun {B G0 G H pl σ ρ R post} r hp hq => h.sd r hp fun v d G1 H1 pl1 s1 hd hp1 => ?_⟩
  obtain ⟨ns, rfl, hp1⟩ := hp1
  obtain ⟨a, rfl, k1, k3⟩ := rs_scr (K := X.K) (pl := pl1) (G := G1) hd
  exact ⟨a, rfl, ⟨_, s1.ok.sub.sqL k1⟩, hq _ (ns.map .int) G1 H1 pl1 s1 (iter_list fun G2 H2 pl2 o2 l2 => ⟨_, o2.sub.sqL (l2.1.sqL k1), rl_ints ns⟩) (by rw [List.length_map]; exact k3) (hp1 k3)⟩
def pSrcR (p : PX (List PV)) : PX (List PV) := fun ρ post => p ρ fun ds => ds.length ≤ 16777216 → post ds
theorem qic_list {e : Expr} {t : TE} {p : PX (List PV)} (hK : X.K = K) (h : QX rL K PO X e t p) : QIc K PO X tg e (iList K t) (pSrcR p) := by
  subst hK
  refine ⟨pi_list h.pe, fun {B G0 G H pl σ ρ R post} r hp hq => h.sd r hp fun v d G1 H1 pl1 s1 hd hp1 => ?_⟩
  have hd0 := hd
  obtain ⟨a, xs, rfl, k1, k2, k3, k4⟩ := hd
  refine ⟨a, rfl, ⟨xs, SqL.of k1⟩, hq _ d G1 H1 pl1 s1 (iter_list fun G2 H2 pl2 o2 l2 => ?_) k4 (hp1 k4)⟩
  obtain ⟨b, ys, e, q1, q2, q3, q4⟩ := rL.st s1.ok l2 hd0
  cases e
  exact ⟨ys, SqL.of q1, q3⟩
def pSrcT (p : PX PV) : PX (List PV) := fun ρ post => p ρ fun d => ∃ ds, d = .tup ds ∧ (ds.length ≤ 16777216 → post ds)
theorem qi_tup {e : Expr} {t : TE} {p : PX PV} (hK : X.K = K) (h : QX rS K PO X e t p) : QI K PO X tg e (iTup K t) (pSrcT p) := by
  subst hK
  refine ⟨pi_tup h.pe, fun {B G0 G H pl σ ρ R post} r hp hq => h.sd r hp fun v d G1 H1 pl1 s1 hd hp1 => ?_⟩
  obtain ⟨ds, rfl, hp1⟩ := hp1
  obtain ⟨a, xs, rfl, k1, k2, k3⟩ := rs_tup (K := X.K) (pl := pl1) (G := G1) hd
  refine ⟨a, rfl, ⟨xs, s1.ok.sub.sqT k1⟩, hq _ ds G1 H1 pl1 s1 (iter_plain fun i G2 H2 pl2 o2 l2 => ?_) (by omega) (hp1 k3)⟩
  have h1 : SqT X.K H2 a xs := o2.sub.sqT (l2.1.sqT k1)
  have h2 := Rl.mono l2.1 l2.2 _ _ k2
  refine ⟨fun e => ⟨xs, h1, by rw [h2.len]; omega⟩, fun d e => ?_⟩
  obtain ⟨x, e1, e2⟩ := h2.get e
  refine ⟨⟨xs, x, h1, e1⟩, fun y H' q => ?_⟩
  obtain ⟨rfl, q⟩ := q
  have := q xs h1
  rw [e1] at this
  cases this
  exact ⟨rfl, e2⟩
def chrs (l : List Nat) : List PV := l.map fun c => .str [c]
def pSrcS (p : PX PV) : PX (List PV) := fun ρ post => p ρ fun d => ∃ l, d = .str l ∧ (l.length ≤ 16777216 → post (chrs l))
theorem qi_str {e : Expr} {t : TE} {p : PX PV} (h : QX rS K PO X e t p) : QI K PO X tg e (iStr t) (pSrcS p) := by
  refine ⟨pi_str h.pe, fun {B G0 G H pl σ ρ R post} r hp hq => h.sd r hp fun v d G1 H1 pl1 s1 hd hp1 => ?_⟩
  obtain ⟨l, rfl, hp1⟩ := hp1
  obtain ⟨rfl, k3⟩ := rs_str (K := K) (pl := pl1) (G := G1) hd
  refine ⟨S l, rfl, hq _ (chrs l) G1 H1 pl1 s1 (iter_plain fun i G2 H2 pl2 o2 l2 => ?_) (by unfold chrs; rw [List.length_map]; omega) (hp1 k3)⟩
  refine ⟨fun e => ?_, fun d e => ?_⟩
  · show (S l).cps.size ≤ i
    unfold chrs at e
    rw [List.length_map] at e
    simp [e]
  · unfold chrs at e
    rw [List.getElem?_map] at e
    obtain ⟨c, e1, e2⟩ := Option.map_eq_some_iff.mp e
    subst e2
    refine ⟨?_, fun y H' q => ?_⟩
    · show i < (S l).cps.size
      have := (List.getElem?_eq_some_iff.mp e1).1
      simpa using this
    · obtain ⟨rfl, c', e3, rfl⟩ := q
      have e4 : l[i]? = some c' := by simpa using e3
      rw [e1] at e4
      cases e4
      exact ⟨rfl, Rs.str (by simp)⟩
def rngV (lo : Int) (n : Nat) : List PV := (List.range n).map fun (i : Nat) => .int (lo + i)
theorem rngV_len (lo : Int) (n : Nat) : (rngV lo n).length = n := by unfold rngV; rw [List.length_map, List.length_range]
theorem rngV_get {lo : Int} {n i : Nat} {d : PV} (h : (rngV lo n)[i]? = some d) : i < n ∧ d = .int (lo + i) := by
  unfold rngV at h
  rw [List.getElem?_map] at h
  obtain ⟨j, e1, e2⟩ := Option.map_eq_some_iff.mp h
  obtain ⟨h1, h2⟩ := List.getElem?_eq_some_iff.mp e1
  rw [List.length_range] at h1
  rw [List.getElem_range] at h2
  subst h2
  exact ⟨h1, e2.symm⟩
theorem rngV_at {lo : Int} {n i : Nat} (h : i < n) : (rngV lo n)[i]? = some (.int (lo + i)) := by
  unfold rngV
  rw [List.getElem?_map, List.getElem?_eq_getElem (by rw [List.length_range]; exact h), List.getElem_range]
  rfl
theorem iter_rng {L : Hp → Hp → PL → Prop} {lo : Int} {n : Nat} : IterOk K PO L (Itr lo n) (rngV lo n) := iter_plain fun i G2 H2 pl2 o2 l2 => by
  refine ⟨fun e => ?_, fun d e => ?_⟩
  · show n ≤ i
    rw [rngV_len] at e
    omega
  · obtain ⟨h1, rfl⟩ := rngV_get e
    exact ⟨h1, fun y H' q => by obtain ⟨rfl, rfl⟩ := q; exact ⟨rfl, Rs.int⟩⟩
def pSrcR1 (p : PX (List PV)) : PX (List PV) := fun ρ post => p ρ fun ds => ∃ j : Int, ds = [.int j] ∧ -1000000000 ≤ j ∧ j ≤ 16777216 ∧ post (rngV 0 j.toNat)
theorem qi_r1 {a : Expr} {ta : TA} {p : PX (List PV)} {p0 pos : Pos} (hg : Gl X "range") (hm : X.mg "range" = none) (h : QA K PO X [a] ta p) (hs : starEach [a] X.env = [(false, eval a X.env)] := by rfl) : QI K PO X tg (.Call (.Name "range" p0) [a] [] pos) (iRng1 ta) (pSrcR1 p) := by
  refine ⟨pi_range1 hg hm h.pe hs, fun {B G0 G H pl σ ρ R post} r hp hq => h.sd r hp fun vs ds G1 H1 pl1 s1 hd hp1 => ?_⟩
  obtain ⟨j, rfl, h1, h2, hp1⟩ := hp1
  obtain ⟨x, r, rfl, k1, k2⟩ := rl_cons hd
  rw [rs_int k1, rl_nil k2]
  exact ⟨j, rfl, by omega, by omega, hq _ _ G1 H1 pl1 s1 iter_rng (by rw [rngV_len]; omega) hp1⟩
def pSrcR2 (p : PX (List PV)) : PX (List PV) := fun ρ post => p ρ fun ds => ∃ i j : Int, ds = [.int i, .int j] ∧ (-1000000000 ≤ i ∧ i ≤ 1000000000 ∧ -1000000000 ≤ j ∧ j ≤ 1000000000 ∧ j - i ≤ 16777216) ∧ post (rngV i (j - i).toNat)
theorem qi_r2 {a b : Expr} {ta : TA} {p : PX (List PV)} {p0 pos : Pos} (hg : Gl X "range") (hm : X.mg "range" = none) (h : QA K PO X [a, b] ta p) (hs : starEach [a, b] X.env = [(false, eval a X.env), (false, eval b X.env)] := by rfl) (hs2 : starEach [b] X.env = [(false, eval b X.env)] := by rfl) :
    QI K PO X tg (.Call (.Name "range" p0) [a, b] [] pos) (iRng2 ta) (pSrcR2 p) := by
  refine ⟨pi_range2 hg hm h.pe hs hs2, fun {B G0 G H pl σ ρ R post} r hp hq => h.sd r hp fun vs ds G1 H1 pl1 s1 hd hp1 => ?_⟩
  obtain ⟨i, j, rfl, h1, hp1⟩ := hp1
  obtain ⟨x, r, rfl, k1, k2⟩ := rl_cons hd
  obtain ⟨y, r, rfl, k3, k4⟩ := rl_cons k2
  rw [rs_int k1, rs_int k3, rl_nil k4]
  exact ⟨i, j, rfl, by omega, hq _ _ G1 H1 pl1 s1 iter_rng (by rw [rngV_len]; omega) hp1⟩
/-- new pairs -/
theorem iter_pairs {L : Hp → Hp → PL → Prop} {J : It} {ds : List PV} (hL : ∀ (i : Nat) (G H : Hp) (pl : PL), Ok PO G H pl → L G H pl → (i = ds.length → J.stop i H) ∧ ∀ d, ds[i]? = some d → J.go i H ∧ ∀ v H', J.yld i H v H' → ∃ T x y dx dy, v = .ref T ∧ H T = none ∧ H' = upd H T (.tup [x, y]) ∧ d = .tup [dx, dy] ∧ Rs K pl G dx x ∧ Rs K pl G dy y) : IterOk K PO L J ds := fun i G H pl o hl => by
  obtain ⟨h1, h2⟩ := hL i G H pl o hl
  refine ⟨h1, fun d e => ⟨(h2 d e).1, fun v H' hy => ?_⟩⟩
  obtain ⟨T, x, y, dx, dy, rfl, hT, rfl, rfl, q1, q2⟩ := (h2 d e).2 v H' hy
  have s := Stp.new (u := .tup [x, y]) o hT
  exact ⟨_, s, Rs.tup upd_same (Rl.cons (Rs.mono s.g s.le _ _ q1) (Rl.cons (Rs.mono s.g s.le _ _ q2) Rl.nil)) (by simp)⟩
def enumV (ds : List PV) : List PV := (List.range ds.length).map fun (i : Nat) => .tup [.int i, ds.getD i .non]
theorem enumV_len (ds : List PV) : (enumV ds).length = ds.length := by unfold enumV; rw [List.length_map, List.length_range]
theorem enumV_get {ds : List PV} {i : Nat} {d : PV} (h : (enumV ds)[i]? = some d) : ∃ x, ds[i]? = some x ∧ d = .tup [.int i, x] := by
  unfold enumV at h
  rw [List.getElem?_map] at h
  obtain ⟨j, e1, e2⟩ := Option.map_eq_some_iff.mp h
  obtain ⟨h1, h2⟩ := List.getElem?_eq_some_iff.mp e1
  rw [List.length_range] at h1
  rw [List.getElem_range] at h2
  subst h2
  exact ⟨_, getD_at h1, e2.symm⟩
theorem enumV_at {ds : List PV} {i : Nat} {x : PV} (h : ds[i]? = some x) : (enumV ds)[i]? = some (.tup [.int i, x]) := by
  unfold enumV
  have hi := (List.getElem?_eq_some_iff.mp h).1
  rw [List.getElem?_map, List.getElem?_eq_getElem (by rw [List.length_range]; exact hi), List.getElem_range]
  show some (PV.tup [.int i, ds.getD i .non]) = _
  rw [getD_of h]
theorem iter_enum {L : Hp → Hp → PL → Prop} {a : Addr} {ds : List PV} (h : ∀ G H pl, Ok PO G H pl → L G H pl → ∃ xs, SqL K H a xs ∧ Rl K pl G ds xs) : IterOk K PO L (Ite K a) (enumV ds) := iter_pairs fun i G H pl o hl => by
  obtain ⟨xs, h1, h2⟩ := h G H pl o hl
  refine ⟨fun e => ⟨xs, h1, by rw [h2.len]; rw [enumV_len] at e; omega⟩, fun d e => ?_⟩
  obtain ⟨dx, e0, rfl⟩ := enumV_get e
  obtain ⟨x, e1, e2⟩ := h2.get e0
  refine ⟨⟨xs, x, h1, e1⟩, fun v H' q => ?_⟩
  obtain ⟨T, y, rfl, hT, rfl, q⟩ := q
  have := q xs h1
  rw [e1] at this
  cases this
  exact ⟨T, _, _, _, _, rfl, hT, rfl, rfl, Rs.int, e2⟩
def pSrcEScr (p : PX PV) : PX (List PV) := fun ρ post => p ρ fun d => ∃ ns, d = .scr ns ∧ (ns.length ≤ 16777216 → post (enumV (ns.map .int)))
theorem qi_enumScr {elts : List Expr} {kk : Nat} {tpos : Pos} {e : Expr} {t : TE} {p : PX PV} {p0 pos : Pos} (hK : X.K = K) (hg : Gl X "enumerate") (hm : X.mg "enumerate" = none) (h : QX rS K PO X e t p) (hs0 : starEach (e :: []) X.env = (false, eval e X.env) :: starEach [] X.env := by rfl) (hs : starEach [e] X.env = [(false, eval e X.env)] := by rfl) :
    QI K PO X (.Tuple elts kk tpos) (.Call (.Name "enumerate" p0) [e] [] pos) (iEnum K (tCons t tNil)) (pSrcEScr p) := by
  subst hK
  refine ⟨pi_enum hg hm (pa_cons h.pe pa_nil hs0) hs, fun {B G0 G H pl σ ρ R post} r hp hq => h.sd r hp fun v d G1 H1 pl1 s1 hd hp1 => ?_⟩
  obtain ⟨ns, rfl, hp1⟩ := hp1
  obtain ⟨a, rfl, k1, k3⟩ := rs_scr (K := X.K) (pl := pl1) (G := G1) hd
  exact ⟨a, _, rfl, s1.ok.sub.sqL k1, hq _ _ G1 H1 pl1 s1 (iter_enum fun G2 H2 pl2 o2 l2 => ⟨_, o2.sub.sqL (l2.1.sqL k1), rl_ints ns⟩) (by rw [enumV_len, List.length_map]; exact k3) (hp1 k3)⟩
theorem sa_one {a : Expr} {ta : TA} {t : TE} (e : ta = tCons t tNil) : True := trivial
def pSrcE (p : PX PV) : PX (List PV) := fun ρ post => p ρ fun d => ∃ ds, d = .lst ds ∧ (ds.length ≤ 16777216 → post (enumV ds))
theorem qi_enum {elts : List Expr} {kk : Nat} {tpos : Pos} {e : Expr} {t : TE} {p : PX PV} {p0 pos : Pos} (hK : X.K = K) (hg : Gl X "enumerate") (hm : X.mg "enumerate" = none) (h : QX rS K PO X e t p) (hs0 : starEach (e :: []) X.env = (false, eval e X.env) :: starEach [] X.env := by rfl) (hs : starEach [e] X.env = [(false, eval e X.env)] := by rfl) :
    QI K PO X (.Tuple elts kk tpos) (.Call (.Name "enumerate" p0) [e] [] pos) (iEnum K (tCons t tNil)) (pSrcE p) := by
  subst hK
  refine ⟨pi_enum hg hm (pa_cons h.pe pa_nil hs0) hs, fun {B G0 G H pl σ ρ R post} r hp hq => h.sd r hp fun v d G1 H1 pl1 s1 hd hp1 => ?_⟩
  obtain ⟨ds, rfl, hp1⟩ := hp1
  obtain ⟨a, xs, rfl, k1, k2, k3⟩ := rs_lst (K := X.K) (pl := pl1) (G := G1) hd
  exact ⟨a, xs, rfl, SqL.of (s1.ok.sub _ _ k1), hq _ _ G1 H1 pl1 s1 (iter_enum fun G2 H2 pl2 o2 l2 => ⟨xs, SqL.of (o2.sub _ _ (l2.1 _ _ k1)), Rl.mono l2.1 l2.2 _ _ k2⟩) (by rw [enumV_len]; omega) (hp1 k3)⟩
def pSrcEc (p : PX (List PV)) : PX (List PV) := fun ρ post => p ρ fun ds => ds.length ≤ 16777216 → post (enumV ds)
theorem qic_enum {elts : List Expr} {kk : Nat} {tpos : Pos} {e : Expr} {t : TE} {p : PX (List PV)} {p0 pos : Pos} (hK : X.K = K) (hg : Gl X "enumerate") (hm : X.mg "enumerate" = none) (h : QX rL K PO X e t p) (hs0 : starEach (e :: []) X.env = (false, eval e X.env) :: starEach [] X.env := by rfl) (hs : starEach [e] X.env = [(false, eval e X.env)] := by rfl) :
    QIc K PO X (.Tuple elts kk tpos) (.Call (.Name "enumerate" p0) [e] [] pos) (iEnum K (tCons t tNil)) (pSrcEc p) := by
  subst hK
  refine ⟨pi_enum hg hm (pa_cons h.pe pa_nil hs0) hs, fun {B G0 G H pl σ ρ R post} r hp hq => h.sd r hp fun v d G1 H1 pl1 s1 hd hp1 => ?_⟩
  have hd0 := hd
  obtain ⟨a, xs, rfl, k1, k2, k3, k4⟩ := hd
  refine ⟨a, xs, rfl, SqL.of k1, hq _ _ G1 H1 pl1 s1 (iter_enum fun G2 H2 pl2 o2 l2 => ?_) (by rw [enumV_len]; exact k4) (hp1 k4)⟩
  obtain ⟨b, ys, e, q1, q2, q3, q4⟩ := rL.st s1.ok l2 hd0
  cases e
  exact ⟨ys, SqL.of q1, q3⟩
def pSrcES (p : PX PV) : PX (List PV) := fun ρ post => p ρ fun d => ∃ l, d = .str l ∧ (l.length ≤ 16777216 → post (enumV (chrs l)))
theorem qi_enumS {elts : List Expr} {kk : Nat} {tpos : Pos} {e : Expr} {t : TE} {p : PX PV} {p0 pos : Pos} (hg : Gl X "enumerate") (hm : X.mg "enumerate" = none) (h : QX rS K PO X e t p) (hs0 : starEach (e :: []) X.env = (false, eval e X.env) :: starEach [] X.env := by rfl) (hs : starEach [e] X.env = [(false, eval e X.env)] := by rfl) :
    QI K PO X (.Tuple elts kk tpos) (.Call (.Name "enumerate" p0) [e] [] pos) (iEnumS (tCons t tNil)) (pSrcES p) := by
  refine ⟨pi_enumS hg hm (pa_cons h.pe pa_nil hs0) hs, fun {B G0 G H pl σ ρ R post} r hp hq => h.sd r hp fun v d G1 H1 pl1 s1 hd hp1 => ?_⟩
  obtain ⟨l, rfl, hp1⟩ := hp1
  obtain ⟨rfl, k3⟩ := rs_str (K := K) (pl := pl1) (G := G1) hd
  refine ⟨S l, rfl, hq _ _ G1 H1 pl1 s1 (iter_pairs fun i G2 H2 pl2 o2 l2 => ?_) (by rw [enumV_len]; unfold chrs; rw [List.length_map]; omega) (hp1 k3)⟩
  refine ⟨fun e => ?_, fun d e => ?_⟩
  · show i = (S l).cps.size
    rw [enumV_len] at e
    unfold chrs at e
    rw [List.length_map] at e
    simp [e]
  · obtain ⟨x, e1, rfl⟩ := enumV_get e
    unfold chrs at e1
    rw [List.getElem?_map] at e1
    obtain ⟨c, e2, rfl⟩ := Option.map_eq_some_iff.mp e1
    refine ⟨?_, fun v H' q => ?_⟩
    · show i < (S l).cps.size
      have := (List.getElem?_eq_some_iff.mp e2).1
      simpa using this
    · obtain ⟨T, c', rfl, hT, rfl, e3⟩ := q
      have e4 : l[i]? = some c' := by simpa using e3
      rw [e2] at e4
      cases e4
      exact ⟨T, _, _, _, _, rfl, hT, rfl, rfl, Rs.int, Rs.str (by simp)⟩
def zipV (as bs : List PV) : List PV := List.zipWith (fun a b => .tup [a, b]) as bs
theorem zipV_len (as bs : List PV) : (zipV as bs).length = min as.length bs.length := by unfold zipV; rw [List.length_zipWith]
theorem zipV_get {as bs : List PV} {i : Nat} {d : PV} (h : (zipV as bs)[i]? = some d) : ∃ a b, as[i]? = some a ∧ bs[i]? = some b ∧ d = .tup [a, b] := by
  unfold zipV at h
  rw [List.getElem?_zipWith] at h
  cases e1 : as[i]? with
  | none => rw [e1] at h; cases h
  | some a =>
    cases e2 : bs[i]? with
    | none => rw [e1, e2] at h; cases h
    | some b =>
      rw [e1, e2] at h
      cases h
      exact ⟨a, b, rfl, rfl, rfl⟩
theorem iter_zip {L : Hp → Hp → PL → Prop} {a b : Addr} {ds es : List PV} (h : ∀ G H pl, Ok PO G H pl → L G H pl → ∃ xs ys, SqL K H a xs ∧ SqL K H b ys ∧ Rl K pl G ds xs ∧ Rl K pl G es ys) : IterOk K PO L (Itz K a b) (zipV ds es) := iter_pairs fun i G H pl o hl => by
  obtain ⟨xs, ys, h1, h2, h3, h4⟩ := h G H pl o hl
  refine ⟨fun e => ⟨xs, ys, h1, h2, by rw [h3.len, h4.len]; rw [zipV_len] at e; omega⟩, fun d e => ?_⟩
  obtain ⟨dx, dy, e1, e2, rfl⟩ := zipV_get e
  obtain ⟨x, w1, w2⟩ := h3.get e1
  obtain ⟨y, w3, w4⟩ := h4.get e2
  refine ⟨⟨xs, ys, x, y, h1, h2, w1, w3⟩, fun v H' q => ?_⟩
  obtain ⟨T, x', y', rfl, hT, rfl, q1, q2⟩ := q
  have z1 := q1 xs h1
  have z2 := q2 ys h2
  rw [w1] at z1
  rw [w3] at z2
  cases z1
  cases z2
  exact ⟨T, _, _, _, _, rfl, hT, rfl, rfl, w2, w4⟩
def pSrcZ (p q : PX PV) : PX (List PV) := fun ρ post => p ρ fun d => q ρ fun e => ∃ ds es, d = .lst ds ∧ e = .lst es ∧ (ds.length ≤ 16777216 → es.length ≤ 16777216 → post (zipV ds es))
theorem qi_zip {elts : List Expr} {kk : Nat} {tpos : Pos} {e e2 : Expr} {t u : TE} {p q : PX PV} {p0 pos : Pos} (hK : X.K = K) (hg : Gl X "zip") (hm : X.mg "zip" = none) (h : QX rS K PO X e t p) (k : QX rS K PO X e2 u q)
    (hs1 : starEach (e :: [e2]) X.env = (false, eval e X.env) :: starEach [e2] X.env := by rfl) (hs2 : starEach (e2 :: []) X.env = (false, eval e2 X.env) :: starEach [] X.env := by rfl)
    (hs : starEach [e, e2] X.env = (false, eval e X.env) :: starEach [e2] X.env := by rfl) (hpl : (backTo pos (starEach [e2] X.env)).any (·.1) = false := by rfl) :
    QI K PO X (.Tuple elts kk tpos) (.Call (.Name "zip" p0) [e, e2] [] pos) (iZip K (tCons t (tCons u tNil))) (pSrcZ p q) := by
  subst hK
  refine ⟨pi_zip hg hm (pa_cons h.pe (pa_cons k.pe pa_nil hs2) hs1) hs hpl, fun {B G0 G H pl σ ρ R post} r hp hq => h.sd r hp fun v d G1 H1 pl1 s1 hd hp1 => k.sd (r.step s1) hp1 fun w d2 G2 H2 pl2 s2 hd2 hp2 => ?_⟩
  obtain ⟨ds, es, rfl, rfl, hp2⟩ := hp2
  obtain ⟨a, xs, rfl, k1, k2, k3⟩ := rs_lst (K := X.K) (pl := pl1) (G := G1) hd
  obtain ⟨b, ys, rfl, l1, l2, l3⟩ := rs_lst (K := X.K) (pl := pl2) (G := G2) hd2
  have k1' := s2.g _ _ k1
  have k2' := Rl.mono s2.g s2.le _ _ k2
  exact ⟨a, b, xs, ys, rfl, SqL.of (s2.ok.sub _ _ k1'), SqL.of (s2.ok.sub _ _ l1), hq _ _ G2 H2 pl2 (s1.trans r.ok s2) (iter_zip fun G3 H3 pl3 o3 l4 => ⟨xs, ys, SqL.of (o3.sub _ _ (l4.1 _ _ k1')), SqL.of (o3.sub _ _ (l4.1 _ _ l1)), Rl.mono l4.1 l4.2 _ _ k2', Rl.mono l4.1 l4.2 _ _ l2⟩) (by rw [zipV_len]; omega) (hp2 k3 l3)⟩
def pSrcV (p : PX PV) : PX (List PV) := fun ρ post => p ρ fun d => ∃ ds, d = .lst ds ∧ (ds.length ≤ 16777216 → post ds.reverse)
theorem qi_rev {e : Expr} {t : TE} {p : PX PV} {p0 pos : Pos} (hK : X.K = K) (hg : Gl X "reversed") (hm : X.mg "reversed" = none) (h : QX rS K PO X e t p) (hs0 : starEach (e :: []) X.env = (false, eval e X.env) :: starEach [] X.env := by rfl) (hs : starEach [e] X.env = [(false, eval e X.env)] := by rfl) :
    QI K PO X tg (.Call (.Name "reversed" p0) [e] [] pos) (iRev K (tCons t tNil)) (pSrcV p) := by
  subst hK
  refine ⟨pi_reversed hg hm (pa_cons h.pe pa_nil hs0) hs, fun {B G0 G H pl σ ρ R post} r hp hq => h.sd r hp fun v d G1 H1 pl1 s1 hd hp1 => ?_⟩
  obtain ⟨ds, rfl, hp1⟩ := hp1
  obtain ⟨a, xs, rfl, k1, k2, k3⟩ := rs_lst (K := X.K) (pl := pl1) (G := G1) hd
  have hl := k2.len
  refine ⟨a, xs, rfl, SqL.of (s1.ok.sub _ _ k1), hq _ _ G1 H1 pl1 s1 (iter_plain fun i G2 H2 pl2 o2 l2 => ?_) (by rw [List.length_reverse]; omega) (hp1 k3)⟩
  have h1 : SqL X.K H2 a xs := SqL.of (o2.sub _ _ (l2.1 _ _ k1))
  have h2 := Rl.mono l2.1 l2.2 _ _ k2
  refine ⟨fun e => ?_, fun d e => ?_⟩
  · show xs.length ≤ i
    rw [List.length_reverse] at e
    omega
  · have hi := (List.getElem?_eq_some_iff.mp e).1
    rw [List.length_reverse] at hi
    rw [List.getElem?_reverse hi] at e
    obtain ⟨x, e1, e2⟩ := h2.get e
    rw [← hl] at e1
    refine ⟨⟨by omega, xs, x, h1, e1⟩, fun y H' q => ?_⟩
    obtain ⟨rfl, q⟩ := q
    have := q xs h1
    rw [e1] at this
    cases this
    exact ⟨rfl, e2⟩
end
/-! ## changes -/
section
variable {K : PySem.W.Frag} {PO : POk} {X : Cx} {W : WX}
theorem RV.olAt {pl : PL} {G H : Hp} {ds : List PV} {v : V} {A : List Addr} (h : RV K pl G H (.ol ds) v A) : ∃ a xs, v = .ref a ∧ A = [a] ∧ H a = some (.lst xs) ∧ Rl K pl G ds xs ∧ ds.length ≤ 16777216 := h
/-- x.append(e) -/
def pApp (i : Nat) (p : En → (Vl → En → Prop) → Prop) : PSt := fun P ρ => (∃ ds0, ρ[i]? = some (some (.ol ds0))) ∧ p ρ fun vl ρ' => ∃ d ds, vl = .sh d ∧ ρ'[i]? = some (some (.ol ds)) ∧ ds.length < 16777216 ∧ P.nx (ρ'.set i (some (.ol (ds ++ [d]))))
theorem ss_app {i : Nat} {te : TE} {p : En → (Vl → En → Prop) → Prop} (h : SM K PO te p) : SS K PO W (tDrop (tBM K "list" rAppend (tVar i) (tCons te tNil))) (pApp i p) := fun {B G0 G H pl σ ρ D P} r e hp => by
  obtain ⟨⟨ds0, e0⟩, hp⟩ := hp
  obtain ⟨v, A, e1, e2, _⟩ := r.var e0
  obtain ⟨a, xs0, rfl, _, h0, _⟩ := e2
  refine ⟨.ref a, e1, .inl ⟨rfl, _, SqL.of h0⟩, h r hp fun w wl ρ' G' H' pl' s le r' hp1 => ?_⟩
  obtain ⟨d, ds, rfl, ei, hl, hp2⟩ := hp1
  obtain ⟨v', A', C, g1, g2, g3, nd, n, fin⟩ := r'.mutT ei
  rw [e1] at g1
  cases g1
  obtain ⟨b, xs, eb, rfl, k1, k2, k3⟩ := g2
  cases eb
  refine ⟨a, xs, w, rfl, rfl, k1, by rw [k2.len, line_eq]; exact hl, e.nx s le (fin (upd H' a (.lst (xs ++ [w]))) (.ol (ds ++ [d])) [a] (fun b hb => upd_ne fun z => hb (by simp [z])) (fun b hb => ?_) ⟨a, _, rfl, rfl, upd_same, k2.snoc g3.2, ?_⟩ (by simp) (fun b hb => List.mem_append_left _ hb)) hp2⟩
  · rw [List.mem_singleton.mp hb, upd_same]
    simp
  · rw [List.length_append, List.length_singleton]
    omega
theorem qs_app {i : Nat} {o e : Expr} {apos cpos pos : Pos} {te : TE} {p : En → (Vl → En → Prop) → Prop} (hK : X.K = K) (h : QM K PO X e te p)
    (hpe : PE X e te → PE X (.Call (.Attribute o "append" apos) [e] [] cpos) (tBM X.K "list" rAppend (tVar i) (tCons te tNil))) (hs : swapsWith (.Call (.Attribute o "append" apos) [e] [] cpos) none pos.line X.env = pure false := by rfl) :
    QS K PO W X (.Expr (.Call (.Attribute o "append" apos) [e] [] cpos) pos) (tDrop (tBM K "list" rAppend (tVar i) (tCons te tNil))) (pApp i p) := by
  subst hK
  exact ⟨ps_expr (hpe h.pe) hs, ss_app h.sd⟩
/-- rows.append(a new list) -/
def pAppO (i : Nat) (p : En → (Vl → En → Prop) → Prop) : PSt := fun P ρ => (∃ ds0, ρ[i]? = some (some (.oo ds0))) ∧ p ρ fun vl ρ' => ∃ d dss, vl = .ol d ∧ ρ'[i]? = some (some (.oo dss)) ∧ dss.length < 16777216 ∧ P.nx (ρ'.set i (some (.oo (dss ++ [d]))))
theorem ss_appO {i : Nat} {te : TE} {p : En → (Vl → En → Prop) → Prop} (h : SM K PO te p) : SS K PO W (tDrop (tBM K "list" rAppend (tVar i) (tCons te tNil))) (pAppO i p) := fun {B G0 G H pl σ ρ D P} r e hp => by
  obtain ⟨⟨ds0, e0⟩, hp⟩ := hp
  obtain ⟨v, A, e1, e2, _⟩ := r.var e0
  obtain ⟨a, as0, rfl, _, h0, _⟩ := e2
  refine ⟨.ref a, e1, .inl ⟨rfl, _, SqL.of h0⟩, h r hp fun w wl ρ' G' H' pl' s le r' hp1 => ?_⟩
  obtain ⟨d, dss, rfl, ei, hl, hp2⟩ := hp1
  obtain ⟨v', A', C, g1, g2, g3, nd, n, fin⟩ := r'.mutT ei
  rw [e1] at g1
  cases g1
  obtain ⟨b, as, eb, rfl, k1, k2, k2', k3⟩ := g2
  cases eb
  obtain ⟨c, ys, rfl, rfl, q1, q2, q3⟩ := g3
  have nd' : a ∉ as ∧ as.Nodup ∧ c ∉ a :: as := by
    rw [List.nodup_append] at nd
    obtain ⟨n1, n2, n3⟩ := nd
    rw [List.nodup_cons] at n1
    exact ⟨n1.1, n1.2, fun z => n3 c z c (by simp) rfl⟩
  have hca : c ≠ a := fun z => nd'.2.2 (by simp [z])
  refine ⟨a, as.map V.ref, .ref c, rfl, rfl, k1, by rw [List.length_map, k2, line_eq]; exact hl, e.nx s le (fin (upd H' a (.lst (as.map V.ref ++ [.ref c]))) (.oo (dss ++ [d])) (a :: (as ++ [c])) (fun b hb => upd_ne fun z => hb (by simp [z])) (fun b hb => ?_) ⟨a, as ++ [c], rfl, rfl, ?_, ?_, ?_, ?_⟩ ?_ ?_) hp2⟩
  · by_cases z : b = a
    · subst z; rw [upd_same]; simp
    · rw [upd_ne z]; exact (n b (List.mem_append_left _ hb)).2.2.2
  · rw [upd_same, List.map_append]; rfl
  · rw [List.length_append, List.length_append, k2]; rfl
  · rw [List.length_append, List.length_singleton]; omega
  · intro j b ds' e3 e4
    by_cases hj : j < as.length
    · rw [List.getElem?_append_left hj] at e3
      rw [List.getElem?_append_left (by omega)] at e4
      obtain ⟨xs', w1, w2⟩ := k3 j b ds' e3 e4
      refine ⟨xs', ?_, w2⟩
      rw [upd_ne fun z => by subst z; exact nd'.1 (List.mem_of_getElem? e3)]
      exact w1
    · have hj2 : j = as.length := by
        have := (List.getElem?_eq_some_iff.mp e3).1
        rw [List.length_append, List.length_singleton] at this
        omega
      subst hj2
      rw [List.getElem?_append_right (Nat.le_refl _), Nat.sub_self] at e3
      rw [List.getElem?_append_right (by omega), k2, Nat.sub_self] at e4
      cases e3
      cases e4
      exact ⟨ys, by rw [upd_ne hca]; exact q1, q2, q3⟩
  · rw [List.nodup_cons, List.nodup_append]
    refine ⟨fun z => ?_, nd'.2.1, by simp, fun x hx y hy z => ?_⟩
    · rcases List.mem_append.mp z with z | z
      · exact nd'.1 z
      · exact hca (List.mem_singleton.mp z).symm
    · subst z
      rw [List.mem_singleton.mp hy] at hx
      exact nd'.2.2 (List.mem_cons_of_mem _ hx)
  · intro b hb
    rcases List.mem_cons.mp hb with rfl | hb
    · simp
    · rcases List.mem_append.mp hb with hb | hb
      · exact List.mem_append_left _ (List.mem_cons_of_mem _ hb)
      · exact List.mem_append_right _ hb
theorem qs_appO {i : Nat} {o e : Expr} {apos cpos pos : Pos} {te : TE} {p : En → (Vl → En → Prop) → Prop} (hK : X.K = K) (h : QM K PO X e te p)
    (hpe : PE X e te → PE X (.Call (.Attribute o "append" apos) [e] [] cpos) (tBM X.K "list" rAppend (tVar i) (tCons te tNil))) (hs : swapsWith (.Call (.Attribute o "append" apos) [e] [] cpos) none pos.line X.env = pure false := by rfl) :
    QS K PO W X (.Expr (.Call (.Attribute o "append" apos) [e] [] cpos) pos) (tDrop (tBM K "list" rAppend (tVar i) (tCons te tNil))) (pAppO i p) := by
  subst hK
  exact ⟨ps_expr (hpe h.pe) hs, ss_appO h.sd⟩
/-- x[k] = e -/
def pSto (i : Nat) (pk : PX PV) (p : PX PV) : PSt := fun P ρ => p ρ fun d => ∃ ds, ρ[i]? = some (some (.ol ds)) ∧ pk ρ fun y => ∃ k j, y = .int k ∧ ixN ds.length k = some j ∧ P.nx (ρ.set i (some (.ol (ds.set j d))))
theorem ss_sto {i : Nat} {tk te : TE} {pk p : PX PV} (hk : SX rS K PO tk pk) (h : SX rS K PO te p) : SS K PO W (tAsg te (gSub (tVar i) tk rSetL)) (pSto i pk p) := fun {B G0 G H pl σ ρ D P} r e hp => h r hp fun w d G1 H1 pl1 s1 hd hp1 => by
  obtain ⟨ds, ei, hp1⟩ := hp1
  have r1 := r.step s1
  obtain ⟨v, A, ev, _⟩ := r1.var ei
  refine ⟨v, ev, hk r1 hp1 fun y dy G2 H2 pl2 s2 hdy hp2 => ?_⟩
  obtain ⟨k, j, rfl, hj, hp3⟩ := hp2
  have r2 := r1.step s2
  obtain ⟨v', A', g1, g2, nd, n, fin⟩ := r2.mut ei
  rw [ev] at g1
  cases g1
  obtain ⟨a, xs, rfl, rfl, k1, k2, k3⟩ := g2
  refine ⟨a, xs, k, j, rfl, rs_int (K := K) (pl := pl2) (G := G2) hdy, k1, by rw [k2.len]; exact hj, e.nx (s1.g.trans s2.g) (s1.le.trans s2.le) (fin (upd H2 a (.lst (xs.set j w))) (.ol (ds.set j d)) [a] (fun b hb => upd_ne fun z => hb (by simp [z])) (fun b hb => ?_) ⟨a, _, rfl, rfl, upd_same, k2.set j (Rs.mono s2.g s2.le _ _ hd), ?_⟩ (by simp) (fun b hb => hb)) hp3⟩
  · rw [List.mem_singleton.mp hb, upd_same]
    simp
  · rw [List.length_set]
    exact k3
theorem qs_sto {i : Nat} {x : Str} {ek e : Expr} {p0 spos pos : Pos} {tk te : TE} {pk p : PX PV} (hk : QX rS K PO X ek tk pk) (h : QX rS K PO X e te p) (hpe : PE X ek tk → PG X (.Subscript (.Name x p0) ek spos) (gSub (tVar i) tk rSetL))
    (hs : swapsWithSole [.Subscript (.Name x p0) ek spos] e pos.line X.env = pure false := by rfl) (hw : swappedStores [.Subscript (.Name x p0) ek spos] e X.env = pure none := by rfl)
    (h1 : (assignEach [.Subscript (.Name x p0) ek spos] X.env).map (·.2) = [assign (.Subscript (.Name x p0) ek spos) X.env] := by rfl) :
    QS K PO W X (.Assign [.Subscript (.Name x p0) ek spos] e pos) (tAsg te (gSub (tVar i) tk rSetL)) (pSto i pk p) := ⟨ps_asg h.pe (hpe hk.pe) hs hw h1, ss_sto hk.sd h.sd⟩
/-! ### inner lists -/
theorem RV.ooIn {pl : PL} {G H : Hp} {a : Addr} {as : List Addr} {dss : List (List PV)} {j : Nat} {ds' : List PV} {xs' : List V} (hj : j < as.length) (nd : (a :: as).Nodup) (k1 : H a = some (.lst (as.map V.ref))) (k2 : as.length = dss.length) (k2' : dss.length ≤ 16777216)
    (k3 : ∀ (i : Nat) (b : Addr) (ds : List PV), as[i]? = some b → dss[i]? = some ds → ∃ xs, H b = some (.lst xs) ∧ Rl K pl G ds xs ∧ ds.length ≤ 16777216) (hr : Rl K pl G ds' xs') (hl : ds'.length ≤ 16777216) :
    RV K pl G (upd H as[j] (.lst xs')) (.oo (dss.set j ds')) (.ref a) (a :: as) := by
  rw [List.nodup_cons] at nd
  refine ⟨a, as, rfl, rfl, ?_, by rw [List.length_set, k2], by rw [List.length_set]; exact k2', fun i b ds e3 e4 => ?_⟩
  · rw [upd_ne fun z => nd.1 (by rw [z]; exact List.getElem_mem hj)]
    exact k1
  · by_cases hi : i = j
    · subst hi
      rw [List.getElem?_eq_getElem hj] at e3
      cases e3
      rw [List.getElem?_set_self (by omega)] at e4
      cases e4
      exact ⟨xs', upd_same, hr, hl⟩
    · rw [List.getElem?_set_ne (Ne.symm hi)] at e4
      obtain ⟨xs, w1, w2⟩ := k3 i b ds e3 e4
      refine ⟨xs, ?_, w2⟩
      rw [upd_ne fun z => hi ?_]
      · exact w1
      · obtain ⟨hi', e5⟩ := List.getElem?_eq_some_iff.mp e3
        have pw := List.pairwise_iff_getElem.mp nd.2
        have e6 : as[i] = as[j] := e5.trans z
        rcases Nat.lt_trichotomy i j with q | q | q
        · exact absurd e6 (pw i j hi' hj q)
        · exact q
        · exact absurd e6.symm (pw j i hj hi' q)
/-- x[j].append(e) -/
def pAppIn (i : Nat) (pj : PX PV) (p : PX PV) : PSt := fun P ρ => ∃ dss, ρ[i]? = some (some (.oo dss)) ∧ pj ρ fun y => ∃ k j ds, y = .int k ∧ ixN dss.length k = some j ∧ dss[j]? = some ds ∧ p ρ fun d => ds.length < 16777216 ∧ P.nx (ρ.set i (some (.oo (dss.set j (ds ++ [d])))))
theorem ss_appIn {i : Nat} {tj te : TE} {pj p : PX PV} (hj : SX rS K PO tj pj) (h : SX rS K PO te p) : SS K PO W (tDrop (tBM K "list" rAppend (tOp (rIxL K) (tVar i) tj) (tCons te tNil))) (pAppIn i pj p) := fun {B G0 G H pl σ ρ D P} r e hp => by
  obtain ⟨dss, ei, hp⟩ := hp
  obtain ⟨v, A, ev, e2, _⟩ := r.var ei
  refine ⟨v, ev, hj r hp fun y dy G1 H1 pl1 s1 hdy hp1 => ?_⟩
  obtain ⟨k, j, ds, rfl, hk, hds, hp2⟩ := hp1
  have r1 := r.step s1
  obtain ⟨v', A', g1, g2, nd, n, _⟩ := r1.mut ei
  rw [ev] at g1
  cases g1
  obtain ⟨a, as, rfl, rfl, k1, k2, k2', k3⟩ := g2
  have hjl : j < as.length := by rw [k2]; exact (List.getElem?_eq_some_iff.mp hds).1
  obtain ⟨xs, w1, w2, w3⟩ := k3 j as[j] ds (List.getElem?_eq_getElem hjl) hds
  refine ⟨a, as.map V.ref, k, .ref as[j], rfl, rs_int (K := K) (pl := pl1) (G := G1) hdy, SqL.of k1, ?_, .inl ⟨rfl, _, SqL.of w1⟩, ?_⟩
  · unfold atI
    rw [List.length_map, k2, hk]
    exact at_map (List.getElem?_eq_getElem hjl)
  refine h r1 hp2 fun w d G2 H2 pl2 s2 hd hp3 => ?_
  obtain ⟨hl, hp3⟩ := hp3
  have r2 := r1.step s2
  obtain ⟨v2, A2, g1, g2, nd2, n2, fin⟩ := r2.mut ei
  rw [ev] at g1
  cases g1
  obtain ⟨b, bs, eb, rfl, k1', k2a, k2b, k3'⟩ := g2
  cases eb
  have eas : bs = as := by
    have q := s2.h a _ k1 (s2.off (by rw [k1]; simp) ?_)
    · rw [k1'] at q
      have q2 := HO.lst.inj (Option.some.inj q)
      exact (List.map_inj_right fun x y z => V.ref.inj z).mp q2
    · exact (fun z => by
        have := r1.ok.free a z
        obtain ⟨v2, A2, z1, z2, _, z3⟩ := r1.var ei
        rw [ev] at z1
        cases z1
        obtain ⟨a2, as2, ez, rfl, _⟩ := z2
        cases ez
        exact (z3 a (by simp)).2.2.1 z)
  subst eas
  obtain ⟨xs2, w1', w2', w3'⟩ := k3' j _ ds (List.getElem?_eq_getElem hjl) hds
  refine ⟨_, xs2, w, rfl, rfl, w1', by rw [w2'.len, line_eq]; exact hl, e.nx (s1.g.trans s2.g) (s1.le.trans s2.le) (fin (upd H2 bs[j] (.lst (xs2 ++ [w]))) (.oo (dss.set j (ds ++ [d]))) (a :: bs) (fun b hb => upd_ne fun z => hb (by rw [z]; exact List.mem_cons_of_mem _ (List.getElem_mem hjl))) (fun b hb => ?_)
    (RV.ooIn hjl nd2 k1' k2a k2b k3' (w2'.snoc hd) (by rw [List.length_append, List.length_singleton]; omega)) nd2 (fun b hb => hb)) hp3⟩
  by_cases z : b = bs[j]
  · rw [z, upd_same]; simp
  · rw [upd_ne z]; exact (n2 b hb).2.2.2
theorem qs_appIn {i : Nat} {o e : Expr} {apos cpos pos : Pos} {tj te : TE} {pj p : PX PV} (hK : X.K = K) {ej : Expr} (hj : QX rS K PO X ej tj pj) (h : QX rS K PO X e te p)
    (hpe : PE X ej tj → PE X e te → PE X (.Call (.Attribute o "append" apos) [e] [] cpos) (tBM X.K "list" rAppend (tOp (rIxL X.K) (tVar i) tj) (tCons te tNil))) (hs : swapsWith (.Call (.Attribute o "append" apos) [e] [] cpos) none pos.line X.env = pure false := by rfl) :
    QS K PO W X (.Expr (.Call (.Attribute o "append" apos) [e] [] cpos) pos) (tDrop (tBM K "list" rAppend (tOp (rIxL K) (tVar i) tj) (tCons te tNil))) (pAppIn i pj p) := by
  subst hK
  exact ⟨ps_expr (hpe hj.pe h.pe) hs, ss_appIn hj.sd h.sd⟩
/-! ### pop -/
def pPop (i : Nat) : En → (Vl → En → Prop) → Prop := fun ρ post => ∃ ds d, ρ[i]? = some (some (.ol (ds ++ [d]))) ∧ post (.sh d) (ρ.set i (some (.ol ds)))
theorem sm_pop {i : Nat} : SM K PO (tBM0 K "list" rPop (tVar i)) (pPop i) := fun {B G0 G H pl σ ρ Q post} r hp hq => by
  obtain ⟨ds, d, ei, hp⟩ := hp
  obtain ⟨v, A, ev, e2, nd, n, fin⟩ := r.mut ei
  obtain ⟨a, xs, rfl, rfl, k1, k2, k3⟩ := e2
  have hl := k2.len
  rw [List.length_append, List.length_singleton] at hl
  obtain ⟨x, q1, q2⟩ := k2.get (i := ds.length) (d := d) (by simp)
  refine ⟨.ref a, ev, .inl ⟨rfl, _, SqL.of k1⟩, a, xs, x, rfl, rfl, k1, by rw [hl]; exact q1, ?_⟩
  have e3 : Rl K pl G ds xs.dropLast := by
    rw [List.dropLast_eq_take, hl]
    have := k2.take ds.length
    rw [List.take_left'] at this
    · exact this
    · rfl
  refine hq x (.sh d) _ G _ pl (Same.refl _) (plLe.refl _) ((fin (upd H a (.lst xs.dropLast)) (.ol ds) [a] (fun b hb => upd_ne fun z => hb (by simp [z])) (fun b hb => ?_) ⟨a, _, rfl, rfl, upd_same, e3, ?_⟩ (by simp) (fun b hb => hb)).pushS q2) hp
  · rw [List.mem_singleton.mp hb, upd_same]; simp
  · rw [List.length_append] at k3; omega
theorem qm_pop {i : Nat} {o : Expr} {apos cpos : Pos} (hK : X.K = K) (hpe : PE X (.Call (.Attribute o "pop" apos) [] [] cpos) (tBM0 X.K "list" rPop (tVar i))) : QM K PO X (.Call (.Attribute o "pop" apos) [] [] cpos) (tBM0 K "list" rPop (tVar i)) (pPop i) := by
  subst hK
  exact ⟨hpe, sm_pop⟩
def pPopAt (i : Nat) (p : PX PV) : En → (Vl → En → Prop) → Prop := fun ρ post => ∃ ds, ρ[i]? = some (some (.ol ds)) ∧ p ρ fun y => ∃ (k : Nat) (d : PV), y = .int k ∧ ds[k]? = some d ∧ post (.sh d) (ρ.set i (some (.ol (ds.eraseIdx k))))
theorem Rl.erase {pl : PL} {G : Hp} : ∀ {ds : List PV} {xs : List V} (n : Nat), Rl K pl G ds xs → Rl K pl G (ds.eraseIdx n) (xs.eraseIdx n)
  | [], xs, n, h => by rw [rl_nil h]; exact Rl.nil
  | d :: ds, xs, 0, h => by
    obtain ⟨x, r, rfl, h1, h2⟩ := rl_cons h
    exact h2
  | d :: ds, xs, n + 1, h => by
    obtain ⟨x, r, rfl, h1, h2⟩ := rl_cons h
    exact Rl.cons h1 (Rl.erase n h2)
theorem sm_popAt {i : Nat} {t : TE} {p : PX PV} (h : SX rS K PO t p) : SM K PO (tBM K "list" rPopAt (tVar i) (tCons t tNil)) (pPopAt i p) := fun {B G0 G H pl σ ρ Q post} r hp hq => by
  obtain ⟨ds, ei, hp⟩ := hp
  obtain ⟨v0, A0, ev, e0, _⟩ := r.var ei
  obtain ⟨a, xs0, rfl, _, k0, _⟩ := e0
  refine ⟨.ref a, ev, .inl ⟨rfl, _, SqL.of k0⟩, h r hp fun y dy G1 H1 pl1 s1 hdy hp1 => ?_⟩
  obtain ⟨k, d, rfl, hd, hp1⟩ := hp1
  have r1 := r.step s1
  obtain ⟨v, A, ev', e2, nd, n, fin⟩ := r1.mut ei
  rw [ev] at ev'
  cases ev'
  obtain ⟨b, xs, eb, rfl, k1, k2, k3⟩ := e2
  cases eb
  have hl := k2.len
  obtain ⟨x, q1, q2⟩ := k2.get hd
  show rPopAt (.ref a) [y] H1 Q
  rw [rs_int (K := K) (pl := pl1) (G := G1) hdy]
  refine w_popAt k1 (by omega) q1 (hq x (.sh d) _ G1 _ pl1 s1.g s1.le ((fin (upd H1 a (.lst (xs.eraseIdx k))) (.ol (ds.eraseIdx k)) [a] (fun b hb => upd_ne fun z => hb (by simp [z])) (fun b hb => ?_) ⟨a, _, rfl, rfl, upd_same, k2.erase k, ?_⟩ (by simp) (fun b hb => hb)).pushS q2) hp1)
  · rw [List.mem_singleton.mp hb, upd_same]; simp
  · have := List.length_eraseIdx_le ds k
    omega
theorem qm_popAt {i : Nat} {o e : Expr} {apos cpos : Pos} {t : TE} {p : PX PV} (hK : X.K = K) (h : QX rS K PO X e t p) (hpe : PE X e t → PE X (.Call (.Attribute o "pop" apos) [e] [] cpos) (tBM X.K "list" rPopAt (tVar i) (tCons t tNil))) :
    QM K PO X (.Call (.Attribute o "pop" apos) [e] [] cpos) (tBM K "list" rPopAt (tVar i) (tCons t tNil)) (pPopAt i p) := by
  subst hK
  exact ⟨hpe h.pe, sm_popAt h.sd⟩
/-! ### x += e -/
def pAug (i : Nat) (g : Int → Int → Int) (p : PX PV) : PSt := fun P ρ => ∃ j, ρ[i]? = some (some (.sh (.int j))) ∧ p ρ fun d => ∃ k, d = .int k ∧ P.nx (ρ.set i (some (.sh (.int (g j k)))))
theorem ss_aug {i : Nat} {g : Int → Int → Int} {te : TE} {p : PX PV} (h : SX rS K PO te p) : SS K PO W (tAug i te (ipI g)) (pAug i g p) := fun {B G0 G H pl σ ρ D P} r e hp => by
  obtain ⟨j, ei, hp⟩ := hp
  obtain ⟨v, A, ev, e2, _⟩ := r.var ei
  refine ⟨v, ev, h r hp fun y dy G1 H1 pl1 s1 hdy hp1 => ?_⟩
  obtain ⟨k, rfl, hp1⟩ := hp1
  refine ⟨j, k, rs_int (K := K) (pl := pl) (G := G) e2.2, rs_int (K := K) (pl := pl1) (G := G1) hdy, e.nx s1.g s1.le ?_ hp1⟩
  exact ((r.step s1).pushS (d := .int (g j k)) (v := .int (g j k)) Rs.int).set
theorem qs_aug {i : Nat} {x : Str} {e : Expr} {te : TE} {op : Operator} {g : Int → Int → Int} {pos pos' : Pos} {p : PX PV} (h : QX rS K PO X e te p) (hpe : PE X e te → PS X (.AugAssign (.Name x pos') op e pos) (tAug i te (ipI g))) : QS K PO W X (.AugAssign (.Name x pos') op e pos) (tAug i te (ipI g)) (pAug i g p) := ⟨hpe h.pe, ss_aug h.sd⟩
/-- x[k] += e -/
def pAugS (i : Nat) (g : Int → Int → Int) (pk p : PX PV) : PSt := fun P ρ => ∃ ds, ρ[i]? = some (some (.ol ds)) ∧ pk ρ fun y => ∃ k j m, y = .int k ∧ ixN ds.length k = some j ∧ ds[j]? = some (.int m) ∧ p ρ fun d => ∃ z, d = .int z ∧ P.nx (ρ.set i (some (.ol (ds.set j (.int (g m z))))))
theorem ss_augS {i : Nat} {g : Int → Int → Int} {tk te : TE} {pk p : PX PV} (hk : SX rS K PO tk pk) (h : SX rS K PO te p) : SS K PO W (tAugS (tVar i) tk te (rIxL K) (ipI g) rSetL) (pAugS i g pk p) := fun {B G0 G H pl σ ρ D P} r e hp => by
  obtain ⟨ds, ei, hp⟩ := hp
  obtain ⟨v, A, ev, _⟩ := r.var ei
  refine ⟨v, ev, hk r hp fun y dy G1 H1 pl1 s1 hdy hp1 => ?_⟩
  obtain ⟨k, j, m, rfl, hj, hm, hp1⟩ := hp1
  have r1 := r.step s1
  obtain ⟨v1, A1, g1, g2, nd1, n1, _⟩ := r1.mut ei
  rw [ev] at g1
  cases g1
  obtain ⟨a, xs, rfl, rfl, k1, k2, k3⟩ := g2
  obtain ⟨x, q1, q2⟩ := k2.get hm
  refine ⟨a, xs, k, x, rfl, rs_int (K := K) (pl := pl1) (G := G1) hdy, SqL.of k1, by unfold atI; rw [k2.len, hj]; exact q1, h r1 hp1 fun w d G2 H2 pl2 s2 hd hp2 => ?_⟩
  obtain ⟨z, rfl, hp2⟩ := hp2
  have r2 := r1.step s2
  obtain ⟨v2, A2, g1, g2, nd, n, fin⟩ := r2.mut ei
  rw [ev] at g1
  cases g1
  obtain ⟨b, xs2, eb, rfl, l1, l2, l3⟩ := g2
  cases eb
  refine ⟨m, z, rs_int q2, rs_int (K := K) (pl := pl2) (G := G2) hd, a, xs2, k, j, rfl, rs_int (K := K) (pl := pl1) (G := G1) hdy, l1, by rw [l2.len]; exact hj, e.nx (s1.g.trans s2.g) (s1.le.trans s2.le) (fin (upd H2 a (.lst (xs2.set j (.int (g m z))))) (.ol (ds.set j (.int (g m z)))) [a] (fun b hb => upd_ne fun z => hb (by simp [z])) (fun b hb => ?_) ⟨a, _, rfl, rfl, upd_same, l2.set j Rs.int, ?_⟩ (by simp) (fun b hb => hb)) hp2⟩
  · rw [List.mem_singleton.mp hb, upd_same]; simp
  · rw [List.length_set]; exact l3
theorem qs_augS {i : Nat} {o ek e : Expr} {tk te : TE} {op : Operator} {g : Int → Int → Int} {pos spos : Pos} {pk p : PX PV} (hK : X.K = K) (hk : QX rS K PO X ek tk pk) (h : QX rS K PO X e te p) (hpe : PE X ek tk → PE X e te → PS X (.AugAssign (.Subscript o ek spos) op e pos) (tAugS (tVar i) tk te (rIxL X.K) (ipI g) rSetL)) :
    QS K PO W X (.AugAssign (.Subscript o ek spos) op e pos) (tAugS (tVar i) tk te (rIxL K) (ipI g) rSetL) (pAugS i g pk p) := by
  subst hK
  exact ⟨hpe hk.pe h.pe, ss_augS hk.sd h.sd⟩
end

/-! ## errors of own classes -/
/-- what __init__ keeps: each field its argument -/
def spIni (C : Addr) (fs : List Str) : Sp := fun vs H Q _ => ∃ (a : Addr) (us : List V), vs = .ref a :: us ∧ us.length = fs.length ∧ H a = some (exo a C none) ∧
  ∀ (dx : Addr) (H' : Hp), H dx = none → dx ≠ a → H' a = some (exo a C (some dx)) → H' dx = some (exd dx (fs.zip us).reverse) → (∀ b, b ≠ a → b ≠ dx → H' b = H b) → Q .non H'
structure ErC (P : Program) (w : World) (K : PySem.W.Frag) (mg : Str → Option Value) (base : Heap) (k : Nat) (x : Str) (C : Addr) (fs : List Str) : Prop where
  oex : OexC K C
  xf : XfC K C
  no : ∀ f ∈ fs, PySem.W.findIn K (.ref C) f = some none
  gC : mg x = some (.ref C)
  exm : PySem.W.exmOne K (.ref C) (.ref C) = some true
  ini : ∃ (fI : Addr) (fd : FuncData) (ps : List Str), PySem.W.findIn K (.ref C) "__init__" = some (some (.ref fI)) ∧ PySem.W.typeIn K (.ref fI) = some (.type "function") ∧ FnOk P w K mg base CX0 k fI fd ps (spIni C fs) ∧ Binds K fd ps []
section
variable {K : PySem.W.Frag} {PO : POk} {X : Cx} {W : WX}
def pRaise (C : Addr) (fs : List Str) (p : PX (List PV)) : PSt := fun P ρ => p ρ fun ds => ds.length = fs.length ∧ fs.length ≤ 1000 ∧ fs.Nodup ∧ P.er ⟨C, fs.zip ds⟩ ρ
theorem zip_look {pl : PL} {G : Hp} : ∀ {fs : List Str} {ds : List PV} {us : List V}, fs.Nodup → Rl K pl G ds us → ds.length = fs.length → Rf K pl G (fs.zip ds) (fs.zip us).reverse := by
  intro fs ds us nd h hl f d e
  have key : ∀ (fs : List Str) (ds : List PV) (us : List V), Rl K pl G ds us → (fs.zip ds).lookup f = some d → ∃ x, (fs.zip us).lookup f = some x ∧ Rs K pl G d x := by
    intro fs
    induction fs with
    | nil => intro ds us _ e; simp at e
    | cons g fs ih =>
      intro ds us h e
      cases ds with
      | nil => simp at e
      | cons d0 ds =>
        obtain ⟨u, r, rfl, h1, h2⟩ := rl_cons h
        simp only [List.zip_cons_cons, List.lookup_cons] at e ⊢
        cases hg : f == g with
        | true =>
          rw [hg] at e
          cases e
          exact ⟨u, rfl, h1⟩
        | false =>
          rw [hg] at e
          exact ih ds r h2 e
  obtain ⟨x, e1, e2⟩ := key fs ds us h e
  refine ⟨x, ?_, e2⟩
  have rev : ∀ (fs : List Str) (us : List V), fs.Nodup → (fs.zip us).lookup f = some x → (fs.zip us).reverse.lookup f = some x := by
    intro fs
    induction fs with
    | nil => intro us _ e; simp at e
    | cons g fs ih =>
      intro us nd e
      cases us with
      | nil => simp at e
      | cons u us =>
        simp only [List.zip_cons_cons, List.lookup_cons, List.reverse_cons] at e ⊢
        rw [List.nodup_cons] at nd
        rw [List.lookup_append]
        cases hg : f == g with
        | true =>
          rw [hg] at e
          cases e
          have eg : f = g := by simpa using hg
          subst eg
          have hn : ((fs.zip us).reverse).lookup f = none := by
            rw [List.lookup_eq_none_iff]
            intro p hp
            rw [List.mem_reverse] at hp
            have := (List.of_mem_zip hp).1
            simp only [bne_iff_ne, ne_eq, beq_eq_false_iff_ne]
            intro z
            rw [z] at nd
            exact nd.1 this
          rw [hn]
          simp [List.lookup_cons]
        | false =>
          rw [hg] at e
          rw [ih us nd.2 e]
          rfl
  exact rev fs us nd e1
theorem ss_raise {C : Addr} {fs : List Str} {ta : TA} {p : PX (List PV)} (h : SA K PO ta p) : SS K PO W (fun _ σ H => tMkO C (spIni C fs) [] ta σ H fun cls d H' => W cls d σ H') (pRaise C fs p) := fun {B G0 G H pl σ ρ D P} r e hp => h r hp fun vs ds G1 H1 pl1 s1 hds hp1 => by
  obtain ⟨hl, h1000, nd, hp1⟩ := hp1
  refine ⟨by rw [hds.len, hl]; exact h1000, fun a ha => ⟨a, vs, by rw [List.append_nil], by rw [hds.len, hl], upd_same, fun dx H' hdx hne q1 q2 q3 => ⟨rfl, dx, _, q1, q2, ?_, ?_⟩⟩⟩
  · rw [upd_ne hne] at hdx
    exact hdx
  · rw [upd_ne hne] at hdx
    have eH : upd (del H' a) dx (.xd (fs.zip vs).reverse) = upd H1 dx (.xd (fs.zip vs).reverse) := by
      funext b
      by_cases hb : b = dx
      · subst hb; rw [upd_same, upd_same]
      · rw [upd_ne hb, upd_ne hb]
        by_cases hba : b = a
        · subst hba; rw [del_same, ha]
        · rw [del_ne hba, q3 b hba hb, upd_ne hba]
    rw [eH]
    have s2 := Stp.new (u := .xd (fs.zip vs).reverse) s1.ok hdx
    have r2 := (r.step s1).step s2
    exact e.er (s1.g.trans s2.g) (s1.le.trans s2.le) r2 upd_same (zip_look nd (Rl.mono s2.g s2.le _ _ hds) hl) hp1
theorem qs_raise {k : Nat} {x : Str} {C : Addr} {fs : List Str} {p0 pos pos' : Pos} {e : Expr} {es : List Expr} {ta : TA} {p : PX (List PV)} (hK : X.K = K) (T : ErC X.prog X.w X.K X.mg X.base k x C fs) (hr : Room (k + 1) X.A) (hc : X.calm = true) (tk : Takes X W) (hg : Gl X x) (ha : QA K PO X (e :: es) ta p)
    (hx : Passes CX0 X (fun _ _ _ => False)) (hdb : (x == ("__debug__" : Str)) = false := by decide) (he : starEach (e :: es) X.env = (false, eval e X.env) :: starEach es X.env := by rfl) (hpl : (backTo pos (starEach es X.env)).any (·.1) = false := by rfl) :
    QS K PO W X (.Raise (some (.Call (.Name x p0) (e :: es) [] pos)) none pos') (fun _ σ H => tMkO C (spIni C fs) [] ta σ H fun cls d H' => W cls d σ H') (pRaise C fs p) := by
  obtain ⟨fI, fd, ps, i1, i2, i3, i4⟩ := T.ini
  exact ⟨ps_raise hc tk (pmk_oex T.oex i1 i2 i3 hr i4 .nil hx hg T.gC ha.pe hdb he hpl), ss_raise ha.sd⟩
/-! ## calls that may raise -/
abbrev SpE := List PV → (Vl → Prop) → (Er → Prop) → Prop
def hSpE (K : PySem.W.Frag) (PO : POk) (sp : SpE) : Sp := fun vs H Q E => ∃ (G : Hp) (pl : PL) (ds : List PV) (post : Vl → Prop) (epost : Er → Prop), Ok PO G H pl ∧ Rl K pl G ds vs ∧ sp ds post epost ∧
  (∀ vl v G' H', post vl → Same G G' → Rel K PO H G G' H' pl [some v] [some vl] → Q v H') ∧
  ∀ (e : Er) G' H' (dd : Addr) (xs : List (Str × V)), epost e → Same G G' → Rel K PO H G G' H' pl [] [] → G' dd = some (.xd xs) → Rf K pl G' e.fs xs → E (.ref e.C) (some dd) H'
structure CalX (P : Program) (w : World) (K : PySem.W.Frag) (mg : Str → Option Value) (base : Heap) (k : Nat) (x : Str) (sp : Sp) : Prop where
  ex : ∃ (f : Addr) (fd : FuncData) (ps : List Str), FnOk P w K mg base (L2.CX P w) k f fd ps sp ∧ mg x = some (.ref f) ∧ PySem.W.keepIn K (.ref f) = true ∧ Binds K fd ps []
abbrev CalE (P : Program) (w : World) (K : PySem.W.Frag) (PO : POk) (mg : Str → Option Value) (base : Heap) (k : Nat) (x : Str) (sp : SpE) : Prop := CalX P w K mg base k x (hSpE K PO sp)
def SME (K : PySem.W.Frag) (PO : POk) (W : WX) (t : TE) (p : En → (Vl → En → Prop) → (Er → En → Prop) → Prop) : Prop :=
  ∀ {B G0 G H : Hp} {pl : PL} {σ : L2.St} {ρ : En} {Q : VK} {post : Vl → En → Prop} {ep : Er → En → Prop}, Rel K PO B G0 G H pl σ ρ → p ρ post ep →
    (∀ v vl ρ' G' H' pl', Same G G' → plLe pl pl' → Rel K PO B G0 G' H' pl' (σ ++ [some v]) (ρ' ++ [some vl]) → post vl ρ' → Q v H') →
    (∀ (e : Er) ρ' G' H' pl' (dd : Addr) (xs : List (Str × V)), Same G G' → plLe pl pl' → Rel K PO B G0 G' H' pl' σ ρ' → G' dd = some (.xd xs) → Rf K pl' G' e.fs xs → ep e ρ' → W (.ref e.C) (some dd) σ H') → t σ H Q
structure QME (K : PySem.W.Frag) (PO : POk) (W : WX) (X : Cx) (e : Expr) (t : TE) (p : En → (Vl → En → Prop) → (Er → En → Prop) → Prop) : Prop where
  pe : PE X e t
  sd : SME K PO W t p
def pCallE (sp : SpE) (p : PX (List PV)) : En → (Vl → En → Prop) → (Er → En → Prop) → Prop := fun ρ post ep => p ρ fun ds => sp ds (fun vl => post vl ρ) (fun e => ep e ρ)
theorem qe_ce {k j : Nat} {x : Str} {sp : SpE} {p0 pos : Pos} {e : Expr} {es : List Expr} {t : TA} {p : PX (List PV)} (hK : X.K = K) (c : CalE X.prog X.w X.K PO X.mg X.base k x sp) (hr : Room j X.A) (hk : k ≤ j) (tk : Takes X W) (hg : Gl X x) (ha : QA K PO X (e :: es) t p)
    (hdb : (x == ("__debug__" : Str)) = false := by decide) (he : starEach (e :: es) X.env = (false, eval e X.env) :: starEach es X.env := by rfl) (hpl : (backTo pos (starEach es X.env)).any (·.1) = false := by rfl) :
    QME K PO W X (.Call (.Name x p0) (e :: es) [] pos) (tCallS (hSpE K PO sp) (WE W) t) (pCallE sp p) := by
  subst hK
  obtain ⟨f, fd, ps, F, hm, kp, b⟩ := c.ex
  refine ⟨pe_callS F (hr.mono hk) hg hm kp b (passAt tk) ha.pe hdb he hpl, fun {B G0 G H pl σ ρ Q post ep} r hp hq he => ?_⟩
  refine ha.sd r hp fun vs ds G1 H1 pl1 s1 hds hp1 => ⟨G1, pl1, ds, _, _, s1.ok, hds, hp1, fun vl v G2 H2 hpost s2 r2 => ?_, fun er G2 H2 dd xs hpost s2 r2 g2 f2 => ?_⟩
  · obtain ⟨A, st, hv, nd, n⟩ := Rel.ret (B := B) s1.ok r2 s2
    exact hq v vl ρ G2 H2 pl1 (s1.g.trans s2) s1.le (r.push (s1.trans r.ok st) hv nd (fun a ha => ⟨fresh_on r.ok s1 (n a ha).1, (n a ha).2⟩)) hpost
  · have st : Stp PO G1 H1 pl1 G2 H2 pl1 := ⟨s2, r2.gb, r2.fr, rfl, r2.ok⟩
    exact he er ρ G2 H2 pl1 dd xs (s1.g.trans s2) s1.le ((r.step s1).step st) g2 f2 hpost
def pSetE (i : Nat) (p : En → (Vl → En → Prop) → (Er → En → Prop) → Prop) : PSt := fun P ρ => p ρ (fun vl ρ' => P.nx (ρ'.set i (some vl))) P.er
theorem qs_setE {i : Nat} {x : Str} {e : Expr} {te : TE} {pos pos' : Pos} {p : En → (Vl → En → Prop) → (Er → En → Prop) → Prop} (hN : X.N.Nodup) (hi : X.N[i]? = some x) (hx : Loc X.env.scope x) (he : QME K PO W X e te p) (hs : swapsWith e (some (.Name x pos')) pos.line X.env = pure false := by rfl)
    (hf : X.fn x = true ∨ X.env.scope.names.lookup x = some .local := by first | exact .inl rfl | exact .inr rfl | assumption) : QS K PO W X (.Assign [.Name x pos'] e pos) (tAsg te (gName i)) (pSetE i p) :=
  ⟨ps_set hN hi hx he.pe hs hf, fun {B G0 G H pl σ ρ D P} r e hp => he.sd r hp (fun v vl ρ' G' H' pl' s le r' hq => e.nx s le r'.set hq) fun er ρ' G' H' pl' dd xs s le r' g f q => e.er s le r' g f q⟩
def pDropE (p : En → (Vl → En → Prop) → (Er → En → Prop) → Prop) : PSt := fun P ρ => p ρ (fun _ ρ' => P.nx ρ') P.er
theorem qs_exprE {e : Expr} {pos : Pos} {te : TE} {p : En → (Vl → En → Prop) → (Er → En → Prop) → Prop} (he : QME K PO W X e te p) (hs : swapsWith e none pos.line X.env = pure false := by rfl) : QS K PO W X (.Expr e pos) (tDrop te) (pDropE p) :=
  ⟨ps_expr he.pe hs, fun {B G0 G H pl σ ρ D P} r e hp => he.sd r hp (fun v vl ρ' G' H' pl' s le r' hq => e.nx s le r'.drop hq) fun er ρ' G' H' pl' dd xs s le r' g f q => e.er s le r' g f q⟩
def pRetE (p : En → (Vl → En → Prop) → (Er → En → Prop) → Prop) : PSt := fun P ρ => p ρ (fun vl _ => P.rt vl) P.er
theorem qs_retE {e : Expr} {pos : Pos} {te : TE} {p : En → (Vl → En → Prop) → (Er → En → Prop) → Prop} (he : QME K PO W X e te p) : QS K PO W X (.Return (some e) pos) (tRet te) (pRetE p) :=
  ⟨ps_ret he.pe, fun {B G0 G H pl σ ρ D P} r e hp => he.sd r hp (fun v vl ρ' G' H' pl' s le r' hq => e.rt s le r'.last hq) fun er ρ' G' H' pl' dd xs s le r' g f q => e.er s le r' g f q⟩
/-! ## a def that may raise -/
theorem At.calE {P : Program} {w : World} {K : PySem.W.Frag} {PO : POk} {mg : Str → Option Value} {base : Heap} {x : Str} {st : Stmt} {N ps : List Str} {k : Nat} {sp : SpE} (F : At K mg x st) (S : FnScope N ps (defScope st)) (len : ∀ ds post ep, sp ds post ep → ds.length = ps.length)
    (hb : ∀ (kV doc pm : Value) (an : Option Addr) (cdv ct : Value) (us : List Value), us.length = ps.length → bindArgs (PySem.W.fnOf x x (defArgs st) (defBody st) (defScope st) .none kV doc pm an cdv ct) ⟨us, []⟩ = pure (ps.zip us))
    (hbody : ∀ (f : Addr) (cdv : Value) (A : Around) (outer : List Env) (s : Shared) (H : Hp) (E : XK), Room k (A.deeper (envOfC x (defScope st) s.heap.objs.size f cdv)) →
      ∃ t p, QB K PO (fun cls d _ H => E cls d H) (cxOf (L2.CX P w) P w K mg base N x (defScope st) f cdv A outer s H E) (defBody st) t p ∧
        ∀ ds post ep, sp ds post ep → p { nx := fun _ => post (.sh .non), rt := post, bk := fun _ => False, ct := fun _ => False, er := fun e _ => ep e } (startV N.length ds)) : CalE P w K PO mg base (k + 1) x sp := by
  obtain ⟨f, fd, F, hm, b⟩ := F.ex
  refine ⟨f, fd, ps, F.okX S (fun vs H Q E h => ?_) (fun cdv A outer s H vs Q E hr h => ?_), hm, F.kp, b ps hb⟩
  · obtain ⟨G, pl, ds, post, ep, _, hl, hs, _⟩ := h
    rw [hl.len]
    exact len ds post ep hs
  · obtain ⟨t, p, q, hp⟩ := hbody f cdv A outer s H E hr
    obtain ⟨G, pl, ds, post, ep, o, hl, hs, hq, hqe⟩ := h
    refine ⟨t, q.pe, ?_⟩
    refine q.sd (P := { nx := fun _ => post (.sh .non), rt := post, bk := fun _ => False, ct := fun _ => False, er := fun e _ => ep e }) (rel_start o hl) ⟨fun {G' H' pl' σ' ρ'} a b r hpost => ?_, fun _ _ _ h => h.elim, fun _ _ _ h => h.elim, fun {G' H' pl' v vl} a b r hpost => ?_, fun {G' H' pl' σ' ρ' e dd xs} a b r g f hpost => ?_⟩ (hp ds post ep hs)
    · cases b
      exact hq (.sh .non) .non G' H' hpost a (r.pushS (d := .non) (v := .non) Rs.non).last
    · cases b
      exact hq vl v G' H' hpost a r
    · cases b
      exact hqe e G' H' dd xs hpost a (r.re (σ' := []) (ρ' := []) rfl id (fun i vl e => nomatch e) (fun i j vl wl e => nomatch e)) g f
/-! ## try -/
/-- the body raises nothing -/
theorem qs_try0 {body : List Stmt} {h₀ : ExceptHandler} {hs : List ExceptHandler} {pos : Pos} {t : TS} {p : PSt} (hb : QB K PO W X.nox body t p) : QS K PO W X (.Try body (h₀ :: hs) [] [] pos) t p := ⟨ps_try_thru0 hb.pe, hb.sd⟩
/-- try: body / except x: suite; m: which classes are caught -/
def pTry (pb : PSt) (c : Value) (K : PySem.W.Frag) (ps : Addr → Value → Option Addr → PSt) : PSt := fun P ρ => pb { P with er := fun e ρ' => ∃ b, PySem.W.exmOne K (.ref e.C) c = some b ∧ (b = true → ∀ a dd, ps a (.ref e.C) (some dd) { P with er := fun _ _ => False } ρ') ∧ (b = false → P.er e ρ') } ρ
theorem qs_try {x : Str} {c : Value} {body suite : List Stmt} {b₀ : Stmt} {np pos pos' : Pos} {tb : WX → TS} {ts : Addr → Value → Option Addr → TS} {pb : PSt} {ps : Addr → Value → Option Addr → PSt} (hK : X.K = K) (hs : X.stack = X.env :: X.outer) (hf : X.env.frame = some X.env.locals) (hc : Names X x c) (tk : Takes X W)
    (hb : ∀ (W' : WX) (pn : List (Addr × Obj)) (xe : Value → Shared → Prop), Takes (X.tr pn xe) W' → PassesOwn (model X.prog X.w) X.A X.env xe → QB K PO W' (X.tr pn xe) body (tb W') pb)
    (hsu : ∀ (a : Addr) (oe : Obj) (cls : Value) (d : Option Addr) (pn : List (Addr × Obj)), Zc cls d oe → (∃ vs, oe.data = .fields vs) → QB K PO (fun _ _ _ _ => False) (X.suite a ((a, oe) :: pn)) (b₀ :: suite) (ts a cls d) (ps a cls d)) :
    QS K PO W X (.Try body [.ExceptHandler (some (.Name x np)) none (b₀ :: suite) pos'] [] [] pos) (fun D σ H => tb (wOnly K c ts W D) D σ H) (pTry pb c K ps) := by
  subst hK
  refine ⟨ps_try_only hs hf hc tk (fun W' pn xe tk' po => (hb W' pn xe tk' po).pe) (fun a oe cls d pn hz hv => (hsu a oe cls d pn hz hv).pe), fun {B G0 G H pl σ ρ D P} r e hp => ?_⟩
  refine (hb (wOnly X.K c ts W D) [] (fun e s' => wpAny (model X.prog X.w) X.A (noteFrame e X.env) (fun _ s2 => wpAny (model X.prog X.w) X.A (setFlight e none) (fun _ _ => True) (fun _ _ => True) s2) (fun _ _ => True) s') (fun u s' xx => ?_) PassesOwn.looking).sd (P := { P with er := fun e ρ' => ∃ b, PySem.W.exmOne X.K (.ref e.C) c = some b ∧ (b = true → ∀ a dd, ps a (.ref e.C) (some dd) { P with er := fun _ _ => False } ρ') ∧ (b = false → P.er e ρ') }) r ⟨e.nx, e.bk, e.ct, e.rt, fun {G' H' pl' σ' ρ' er dd xs} s le r' g f q => ?_⟩ hp
  · obtain ⟨a, B, sI, pins', σ', H', cls, d, rfl, J', nb, up, sky, na, os, ag, _⟩ := xx
    have ok : X.Ok := J'.ok.ofTry
    have hfr : X.A.frames = some (X.env :: X.outer) := by rw [ok.frames, hs]
    have sky' : Sky B (X.env :: X.outer) a (Zc cls d) X.env.locals s'.heap := by rw [← hs]; exact sky
    exact Sky.land Zc.steady hfr hf sky' fun h3 fl3 up3 => trivial
  · obtain ⟨b, h1, h2, h3⟩ := q
    refine ⟨b, h1, fun hbt a ha => ?_, fun hbf => e.er s le r' g f (h3 hbf)⟩
    have e2 := e.mono s le
    exact (hsu a { cls := .ref er.C, dict := some dd, data := .fields #[] } (.ref er.C) (some dd) [] ⟨rfl, rfl⟩ ⟨_, rfl⟩).sd (P := { P with er := fun _ _ => False }) r' ⟨e2.nx, e2.bk, e2.ct, e2.rt, fun _ _ _ _ _ h => h.elim⟩ (h2 hbt a dd)
/-- the error at the name i, its field f -/
def pXf (i : Nat) (a : Addr) (cls : Value) (d : Option Addr) (C : Addr) (f : Str) : PX PV := fun ρ post => ∃ e dd v, ρ[i]? = some (some (.er e a dd)) ∧ cls = .ref C ∧ d = some dd ∧ e.fs.lookup f = some v ∧ post v
theorem qe_xf {i : Nat} {a C : Addr} {oe : Obj} {cls : Value} {d : Option Addr} {pn : List (Addr × Obj)} {e : Expr} {pos : Pos} {n : Str} (hK : X.K = K) (T : XfC X.K C) (hno : PySem.W.findIn X.K (.ref C) n = some none) (hz : Zc cls d oe) (hf : ∃ vs, oe.data = .fields vs) (he : PE (X.suite a ((a, oe) :: pn)) e (tVar i))
    (hb : attributeBase e n X.env (eval e X.env) = eval e X.env := by rfl) : QX rS K PO (X.suite a ((a, oe) :: pn)) (.Attribute e n pos) (tXf a cls d C n (tVar i)) (pXf i a cls d C n) := by
  subst hK
  refine ⟨pe_xf T hno hz hf he hb, fun {B G0 G H pl σ ρ Q post} r hp hq => ?_⟩
  obtain ⟨er, dd, v, e1, e2, e3, e4, hp⟩ := hp
  obtain ⟨x, A, g1, ⟨_, rfl, xs, g2, g3⟩, _⟩ := r.var e1
  obtain ⟨y, f1, f2⟩ := g3 _ _ e4
  exact ⟨_, g1, rfl, e2, dd, xs, y, e3, r.ok.sub _ _ g2, f1, hq y v G H pl (Stp.refl r.ok) f2 hp⟩
/-- try: body / except x as n: suite -/
def pTryAs (pb : PSt) (c : Value) (K : PySem.W.Frag) (i : Nat) (ps : Addr → Value → Option Addr → PSt) : PSt := fun P ρ => pb { P with er := fun e ρ' => ∃ b, PySem.W.exmOne K (.ref e.C) c = some b ∧
  (b = true → ∀ a dd, ps a (.ref e.C) (some dd) { P with nx := fun ρ2 => P.nx (ρ2.set i none), bk := fun ρ2 => P.bk (ρ2.set i none), ct := fun ρ2 => P.ct (ρ2.set i none), er := fun _ _ => False } (ρ'.set i (some (.er e a dd)))) ∧ (b = false → P.er e ρ') } ρ
theorem qs_tryAs {x n : Str} {i : Nat} {c : Value} {body suite : List Stmt} {b₀ : Stmt} {np pos pos' : Pos} {tb : WX → TS} {ts : Addr → Value → Option Addr → TS} {pb : PSt} {ps : Addr → Value → Option Addr → PSt} (hK : X.K = K) (hs : X.stack = X.env :: X.outer) (hf : X.env.frame = some X.env.locals) (hN : X.N.Nodup) (hi : X.N[i]? = some n) (hln : X.env.kindOf n = some .local) (hc : Names X x c) (tk : Takes X W)
    (hb : ∀ (W' : WX) (pn : List (Addr × Obj)) (xe : Value → Shared → Prop), Takes (X.tr pn xe) W' → PassesOwn (model X.prog X.w) X.A X.env xe → QB K PO W' (X.tr pn xe) body (tb W') pb)
    (hsu : ∀ (a : Addr) (oe : Obj) (cls : Value) (d : Option Addr) (pn : List (Addr × Obj)), Zc cls d oe → (∃ vs, oe.data = .fields vs) → QB K PO (fun _ _ _ _ => False) (X.suite a ((a, oe) :: pn)) (b₀ :: suite) (ts a cls d) (ps a cls d)) :
    QS K PO W X (.Try body [.ExceptHandler (some (.Name x np)) (some n) (b₀ :: suite) pos'] [] [] pos) (fun D σ H => tb (wAs K c i ts W D) D σ H) (pTryAs pb c K i ps) := by
  subst hK
  refine ⟨ps_try_as hs hf hN hi hln hc tk (fun W' pn xe tk' po => (hb W' pn xe tk' po).pe) (fun a oe cls d pn hz hv => (hsu a oe cls d pn hz hv).pe), fun {B G0 G H pl σ ρ D P} r e hp => ?_⟩
  refine (hb (wAs X.K c i ts W D) [] (fun e s' => wpAny (model X.prog X.w) X.A (noteFrame e X.env) (fun _ s2 => wpAny (model X.prog X.w) X.A (setFlight e none) (fun _ _ => True) (fun _ _ => True) s2) (fun _ _ => True) s') (fun u s' xx => ?_) PassesOwn.looking).sd (P := { P with er := fun e ρ' => ∃ b, PySem.W.exmOne X.K (.ref e.C) c = some b ∧
    (b = true → ∀ a dd, ps a (.ref e.C) (some dd) { P with nx := fun ρ2 => P.nx (ρ2.set i none), bk := fun ρ2 => P.bk (ρ2.set i none), ct := fun ρ2 => P.ct (ρ2.set i none), er := fun _ _ => False } (ρ'.set i (some (.er e a dd)))) ∧ (b = false → P.er e ρ') }) r ⟨e.nx, e.bk, e.ct, e.rt, fun {G' H' pl' σ' ρ' er dd xs} s le r' g f q => ?_⟩ hp
  · obtain ⟨a, B, sI, pins', σ', H', cls, d, rfl, J', nb, up, sky, na, os, ag, _⟩ := xx
    have ok : X.Ok := J'.ok.ofTry
    have hfr : X.A.frames = some (X.env :: X.outer) := by rw [ok.frames, hs]
    have sky' : Sky B (X.env :: X.outer) a (Zc cls d) X.env.locals s'.heap := by rw [← hs]; exact sky
    exact Sky.land Zc.steady hfr hf sky' fun h3 fl3 up3 => trivial
  · obtain ⟨b, h1, h2, h3⟩ := q
    refine ⟨b, h1, fun hbt a ha => ?_, fun hbf => e.er s le r' g f (h3 hbf)⟩
    have r2 : Rel X.K PO B G0 G' H' pl' (σ'.set i (some (.ref a))) (ρ'.set i (some (.er er a dd))) := (r'.push (Stp.refl r'.ok) (vl := .er er a dd) (v := .ref a) ⟨rfl, rfl, xs, g, f⟩ List.nodup_nil (fun a ha => nomatch ha)).set
    have e2 := e.mono s le
    refine (hsu a { cls := .ref er.C, dict := some dd, data := .fields #[] } (.ref er.C) (some dd) [] ⟨rfl, rfl⟩ ⟨_, rfl⟩).sd (P := { P with nx := fun ρ2 => P.nx (ρ2.set i none), bk := fun ρ2 => P.bk (ρ2.set i none), ct := fun ρ2 => P.ct (ρ2.set i none), er := fun _ _ => False }) r2 ⟨?_, ?_, ?_, e2.rt, fun _ _ _ _ _ h => h.elim⟩ ?_
    · exact fun s1 l1 r1 q1 => e2.nx s1 l1 (r1.clear i) q1
    · exact fun s1 l1 r1 q1 => e2.bk s1 l1 (r1.clear i) q1
    · exact fun s1 l1 r1 q1 => e2.ct s1 l1 (r1.clear i) q1
    · exact h2 hbt a dd
end

/-! ## equality of data -/
mutual
def PV.toD : PV → PyData
  | .non => .none
  | .bl b => .bool b
  | .int i => .int i
  | .str l => .str (S l)
  | .tup ds => .tuple (PV.toDs ds)
  | .lst ds => .list (PV.toDs ds)
  | .dK _ => .dict []
  | .dT _ => .dict []
  | .ty _ => .dict []
  | .pool => .dict []
  | .obj _ => .dict []
  | .scr _ => .dict []
def PV.toDs : List PV → List PyData
  | [] => []
  | d :: ds => d.toD :: PV.toDs ds
end
mutual
/-- data: None, truth values, numbers, texts, tuples and lists of these -/
def PV.dat : PV → Bool
  | .non => true
  | .bl _ => true
  | .int _ => true
  | .str _ => true
  | .tup ds => PV.dats ds
  | .lst ds => PV.dats ds
  | .dK _ => false
  | .dT _ => false
  | .ty _ => false
  | .pool => false
  | .obj _ => false
  | .scr _ => false
def PV.dats : List PV → Bool
  | [] => true
  | d :: ds => d.dat && PV.dats ds
end
section
variable {K : PySem.W.Frag} {pl : PL} {G H : Hp}
mutual
theorem dp_of (s : Same G H) : ∀ (d : PV) (v : V), d.dat = true → Rs K pl G d v → Dp K H v d.toD
  | .non, v, _, h => by rw [rs_non h]; unfold PV.toD; exact .non
  | .bl b, v, _, h => by rw [rs_bl h]; unfold PV.toD; exact .bl b
  | .int i, v, _, h => by rw [rs_int h]; unfold PV.toD; exact .int i
  | .str l, v, _, h => by rw [(rs_str h).1]; unfold PV.toD; exact .str _
  | .tup ds, v, k, h => by
    obtain ⟨a, xs, rfl, h1, h2, _⟩ := rs_tup h
    unfold PV.toD
    unfold PV.dat at k
    exact .tup (s.sqT h1) (dps_of s ds xs k h2)
  | .lst ds, v, k, h => by
    obtain ⟨a, xs, rfl, h1, h2, _⟩ := rs_lst h
    unfold PV.toD
    unfold PV.dat at k
    exact .lst (SqL.of (s _ _ h1)) (dps_of s ds xs k h2)
  | .dK _, _, k, _ => by unfold PV.dat at k; cases k
  | .dT _, _, k, _ => by unfold PV.dat at k; cases k
  | .ty _, _, k, _ => by unfold PV.dat at k; cases k
  | .pool, _, k, _ => by unfold PV.dat at k; cases k
  | .obj _, _, k, _ => by unfold PV.dat at k; cases k
  | .scr _, _, k, _ => by unfold PV.dat at k; cases k
theorem dps_of (s : Same G H) : ∀ (ds : List PV) (xs : List V), PV.dats ds = true → Rl K pl G ds xs → DpAll K H xs (PV.toDs ds)
  | [], xs, _, h => by rw [rl_nil h]; unfold PV.toDs; exact .nil
  | d :: ds, xs, k, h => by
    obtain ⟨x, r, rfl, h1, h2⟩ := rl_cons h
    unfold PV.dats at k
    obtain ⟨k1, k2⟩ := Bool.and_eq_true_iff.mp k
    unfold PV.toDs
    exact .cons (dp_of s d x k1 h1) (dps_of s ds r k2 h2)
end
end
def fEqD (n : Bool) : PV → PV → (PV → Prop) → Prop := fun x y post => x.dat = true ∧ y.dat = true ∧ SeqAt.shaped x.toD = true ∧ SeqAt.shaped y.toD = true ∧ post (.bl (if n then !PyData.eqv x.toD y.toD else PyData.eqv x.toD y.toD))
section
variable {K : PySem.W.Frag} {PO : POk}
theorem s2_eqD : S2 rS rS rS K PO (rEqD K) (fEqD false) := fun {G H pl x y d e Q post} o hx hy hf hq => by
  obtain ⟨k1, k2, k3, k4, hp⟩ := hf
  exact ⟨d.toD, e.toD, dp_of o.sub d x k1 hx, dp_of o.sub e y k2 hy, k3, k4, hq _ (.bl _) G H pl (Stp.refl o) (show Rs K pl G _ _ from Rs.bl) hp⟩
theorem s2_neD : S2 rS rS rS K PO (rNeD K) (fEqD true) := fun {G H pl x y d e Q post} o hx hy hf hq => by
  obtain ⟨k1, k2, k3, k4, hp⟩ := hf
  exact ⟨d.toD, e.toD, dp_of o.sub d x k1 hx, dp_of o.sub e y k2 hy, k3, k4, hq _ (.bl _) G H pl (Stp.refl o) (show Rs K pl G _ _ from Rs.bl) hp⟩
/-! ## dicts -/
def keyOf : PV → Option Key
  | .int i => some (.inl i)
  | .str l => some (.inr (S l))
  | _ => none
def keysOf : List PV → Option (List Key)
  | [] => some []
  | d :: ds => match keyOf d, keysOf ds with
    | some k, some ks => some (k :: ks)
    | _, _ => none
theorem keyOf_ok {pl : PL} {G : Hp} {d : PV} {v : V} {k : Key} (h : Rs K pl G d v) (e : keyOf d = some k) : v = kV k := by
  cases d with
  | int i => cases e; exact rs_int h
  | str l => cases e; exact (rs_str h).1
  | _ => cases e
theorem keysOf_ok {pl : PL} {G : Hp} : ∀ {ds : List PV} {xs : List V} {ks : List Key}, Rl K pl G ds xs → keysOf ds = some ks → xs = ks.map kV
  | [], xs, ks, h, e => by cases e; exact rl_nil h
  | d :: ds, xs, ks, h, e => by
    obtain ⟨x, r, rfl, h1, h2⟩ := rl_cons h
    unfold keysOf at e
    cases e1 : keyOf d with
    | none => rw [e1] at e; cases e
    | some k =>
      cases e2 : keysOf ds with
      | none => rw [e1, e2] at e; cases e
      | some ks' =>
        rw [e1, e2] at e
        cases e
        rw [keyOf_ok h1 e1, keysOf_ok h2 e2]
        rfl
theorem look_nil {κ α : Type} [DecidableEq κ] (k : κ) : lookD ([] : List (κ × α)) k = none := rfl
theorem look_cons {κ α : Type} [DecidableEq κ] (k' k : κ) (v : α) (r : List (κ × α)) : lookD ((k', v) :: r) k = if k' = k then some v else lookD r k := by
  unfold lookD
  rw [List.find?_cons]
  by_cases h : k' = k
  · simp [h]
  · simp [h]
theorem rk_look {pl : PL} {G : Hp} : ∀ {kvs : List (Key × PV)} {xs : List (Key × V)} (k : Key), Rk K pl G kvs xs → (∀ d, lookD kvs k = some d → ∃ x, valV xs k = some x ∧ Rs K pl G d x) ∧ (lookD kvs k = none → valV xs k = none)
  | [], xs, k, h => by rw [rk_nil h]; exact ⟨fun d e => (nomatch e), fun _ => rfl⟩
  | (k', d) :: r, xs, k, h => by
    obtain ⟨x, xr, rfl, h1, h2⟩ := rk_cons h
    have ih := rk_look k h2
    have e1 : valV ((k', x) :: xr) k = if k' = k then some x else valV xr k := look_cons k' k x xr
    rw [e1, look_cons]
    by_cases hk : k' = k
    · rw [if_pos hk, if_pos hk]
      exact ⟨fun d' e => ⟨x, rfl, by cases e; exact h1⟩, fun e => nomatch e⟩
    · rw [if_neg hk, if_neg hk]
      exact ih
theorem rt_look {pl : PL} {G : Hp} : ∀ {kvs : List (List Key × PV)} {xs : List (List Key × V)} (k : List Key), Rt K pl G kvs xs → (∀ d, lookD kvs k = some d → ∃ x, valV xs k = some x ∧ Rs K pl G d x) ∧ (lookD kvs k = none → valV xs k = none)
  | [], xs, k, h => by rw [rt_nil h]; exact ⟨fun d e => (nomatch e), fun _ => rfl⟩
  | (k', d) :: r, xs, k, h => by
    obtain ⟨x, xr, rfl, h1, h2⟩ := rt_cons h
    have ih := rt_look k h2
    have e1 : valV ((k', x) :: xr) k = if k' = k then some x else valV xr k := look_cons k' k x xr
    rw [e1, look_cons]
    by_cases hk : k' = k
    · rw [if_pos hk, if_pos hk]
      exact ⟨fun d' e => ⟨x, rfl, by cases e; exact h1⟩, fun e => nomatch e⟩
    · rw [if_neg hk, if_neg hk]
      exact ih
theorem put_eq {κ : Type} [DecidableEq κ] : ∀ (kvs : List (κ × V)) (k : κ) (v : V), (kvs.map (·.1)).Nodup → putK kvs k v = putD kvs k v
  | [], k, v, _ => rfl
  | (k', u) :: r, k, v, nd => by
    rw [List.map_cons, List.nodup_cons] at nd
    have ih := put_eq r k v nd.2
    unfold putK putD
    by_cases hk : k' = k
    · subst hk
      rw [if_pos rfl]
      rw [if_pos (by simp)]
      rw [List.map_cons]
      simp only [if_true]
      congr 1
      conv => rhs; rw [← List.map_id r]
      apply List.map_congr_left
      intro p hp
      rw [if_neg]
      · rfl
      · intro z
        exact nd.1 (List.mem_map.mpr ⟨p, hp, z⟩)
    · rw [if_neg hk]
      rw [← ih]
      unfold putK
      by_cases ha : (r.any fun kv => decide (kv.1 = k)) = true
      · rw [if_pos (by simp [hk]; simpa using ha), if_pos ha, List.map_cons, if_neg hk]
      · rw [if_neg (by simp [hk]; simpa using ha), if_neg ha]
        rfl
theorem rk_put {pl : PL} {G : Hp} {d : PV} {x : V} (hx : Rs K pl G d x) (k : Key) : ∀ {kvs : List (Key × PV)} {xs : List (Key × V)}, Rk K pl G kvs xs → Rk K pl G (putD kvs k d) (putD xs k x)
  | [], xs, h => by rw [rk_nil h]; exact Rk.cons hx Rk.nil
  | (k', d') :: r, xs, h => by
    obtain ⟨y, xr, rfl, h1, h2⟩ := rk_cons h
    unfold putD
    by_cases hk : k' = k
    · rw [if_pos hk, if_pos hk]; exact Rk.cons hx h2
    · rw [if_neg hk, if_neg hk]; exact Rk.cons h1 (rk_put hx k h2)
theorem rt_put {pl : PL} {G : Hp} {d : PV} {x : V} (hx : Rs K pl G d x) (k : List Key) : ∀ {kvs : List (List Key × PV)} {xs : List (List Key × V)}, Rt K pl G kvs xs → Rt K pl G (putD kvs k d) (putD xs k x)
  | [], xs, h => by rw [rt_nil h]; exact Rt.cons hx Rt.nil
  | (k', d') :: r, xs, h => by
    obtain ⟨y, xr, rfl, h1, h2⟩ := rt_cons h
    unfold putD
    by_cases hk : k' = k
    · rw [if_pos hk, if_pos hk]; exact Rt.cons hx h2
    · rw [if_neg hk, if_neg hk]; exact Rt.cons h1 (rt_put hx k h2)
theorem rk_keys {pl : PL} {G : Hp} : ∀ {kvs : List (Key × PV)} {xs : List (Key × V)}, Rk K pl G kvs xs → xs.map (·.1) = kvs.map (·.1)
  | [], xs, h => by rw [rk_nil h]; rfl
  | (k', d') :: r, xs, h => by
    obtain ⟨y, xr, rfl, h1, h2⟩ := rk_cons h
    rw [List.map_cons, List.map_cons, rk_keys h2]
theorem rt_keys {pl : PL} {G : Hp} : ∀ {kvs : List (List Key × PV)} {xs : List (List Key × V)}, Rt K pl G kvs xs → xs.map (·.1) = kvs.map (·.1)
  | [], xs, h => by rw [rt_nil h]; rfl
  | (k', d') :: r, xs, h => by
    obtain ⟨y, xr, rfl, h1, h2⟩ := rt_cons h
    rw [List.map_cons, List.map_cons, rt_keys h2]
theorem putD_len {κ α : Type} [DecidableEq κ] (k : κ) (v : α) : ∀ kvs : List (κ × α), (putD kvs k v).length ≤ kvs.length + 1
  | [] => by unfold putD; simp
  | (k', u) :: r => by
    unfold putD
    have := putD_len k v r
    split
    · simp
    · simp only [List.length_cons]; omega
end
section
variable {K : PySem.W.Frag} {PO : POk} {X : Cx} {W : WX}
def pOfD (p : PX PV) : PX (List (Key × PV)) := fun ρ post => p ρ fun d => ∃ ds, d = .dK ds ∧ post ds
def pOfDT (p : PX PV) : PX (List (List Key × PV)) := fun ρ post => p ρ fun d => ∃ ds, d = .dT ds ∧ post ds
/-- a dict that is read: of a name that owns it, or frozen -/
def pVd (i : Nat) : PX (List (Key × PV)) := fun ρ post => ∃ vl ds, ρ[i]? = some (some vl) ∧ (vl = .oK ds ∨ vl = .sh (.dK ds) ∨ ∃ a, vl = .atK (.obj a) a ds) ∧ post ds
def pVdT (i : Nat) : PX (List (List Key × PV)) := fun ρ post => ∃ vl ds, ρ[i]? = some (some vl) ∧ (vl = .oT ds ∨ vl = .sh (.dT ds)) ∧ post ds
abbrev rD0 : RK (List (Key × PV)) := ⟨fun K pl G H ds v => ∃ a xs, v = .ref a ∧ ((H a = some (.dK xs) ∧ a ∉ pads pl) ∨ Rd G a (.dK xs)) ∧ Rk K pl G ds xs ∧ ds.length ≤ 16777216, fun _ s h => by
  obtain ⟨a, xs, rfl, h1, h3, h4⟩ := h
  refine ⟨a, xs, rfl, ?_, Rk.mono s.g s.le _ _ h3, h4⟩
  rcases h1 with ⟨h1, h2⟩ | h1
  · exact .inl ⟨s.h a _ h1 (s.off (by rw [h1]; simp) h2), s.off (by rw [h1]; simp) h2⟩
  · exact .inr (s.g.rd h1)⟩
abbrev rD1 : RK (List (List Key × PV)) := ⟨fun K pl G H ds v => ∃ a xs, v = .ref a ∧ ((H a = some (.dT xs) ∧ a ∉ pads pl) ∨ Rd G a (.dT xs)) ∧ Rt K pl G ds xs ∧ ds.length ≤ 16777216, fun _ s h => by
  obtain ⟨a, xs, rfl, h1, h3, h4⟩ := h
  refine ⟨a, xs, rfl, ?_, Rt.mono s.g s.le _ _ h3, h4⟩
  rcases h1 with ⟨h1, h2⟩ | h1
  · exact .inl ⟨s.h a _ h1 (s.off (by rw [h1]; simp) h2), s.off (by rw [h1]; simp) h2⟩
  · exact .inr (s.g.rd h1)⟩
theorem rd_of {G H : Hp} {pl : PL} {a : Addr} {u : HO} (o : Ok PO G H pl) (h : (H a = some u ∧ a ∉ pads pl) ∨ Rd G a u) : Rd H a u := by
  rcases h with ⟨h, _⟩ | h
  · exact .inl h
  · exact o.sub.rd h
theorem qd_of {e : Expr} {t : TE} {p : PX PV} (h : QX rS K PO X e t p) : QX rD0 K PO X e t (pOfD p) := by
  refine ⟨h.pe, fun r hp hq => h.sd r hp fun v d G' H' pl' s hd hpost => ?_⟩
  obtain ⟨ds, rfl, hpost⟩ := hpost
  obtain ⟨a, xs, rfl, h1, h2, h3⟩ := rs_dK (K := K) (pl := pl') (G := G') hd
  exact hq _ ds G' H' pl' s ⟨a, xs, rfl, .inr h1, h2, h3⟩ hpost
theorem qd_ofT {e : Expr} {t : TE} {p : PX PV} (h : QX rS K PO X e t p) : QX rD1 K PO X e t (pOfDT p) := by
  refine ⟨h.pe, fun r hp hq => h.sd r hp fun v d G' H' pl' s hd hpost => ?_⟩
  obtain ⟨ds, rfl, hpost⟩ := hpost
  obtain ⟨a, xs, rfl, h1, h2, h3⟩ := rs_dT (K := K) (pl := pl') (G := G') hd
  exact hq _ ds G' H' pl' s ⟨a, xs, rfl, .inr h1, h2, h3⟩ hpost
theorem qvd (i : Nat) {x : Str} {pos : Pos} (hN : X.N[i]? = some x := by rfl) (hv : Vis X.env.scope x := by first | exact Or.inl rfl | exact Or.inr (Or.inl rfl) | exact Or.inr (Or.inr rfl)) (hd : (x == ("__debug__" : Str)) = false := by decide) (hcd : (x == ("__classdict__" : Str)) = false := by decide) :
    QX rD0 K PO X (.Name x pos) (tVar i) (pVd i) := by
  refine ⟨pv i hN hv hd hcd, fun {B G0 G H pl σ ρ Q post} r hp hq => ?_⟩
  obtain ⟨vl, ds, e, al, hpost⟩ := hp
  obtain ⟨v, A, e1, e2, _, n⟩ := r.var e
  refine ⟨v, e1, hq v ds G H pl (Stp.refl r.ok) ?_ hpost⟩
  rcases al with rfl | rfl | ⟨a0, rfl⟩
  · obtain ⟨a, xs, rfl, rfl, h1, h2, h3⟩ := e2
    exact ⟨a, xs, rfl, .inl ⟨h1, (n a (by simp)).2.2.1⟩, h2, h3⟩
  · obtain ⟨a, xs, rfl, h1, h2, h3⟩ := rs_dK e2.2
    exact ⟨a, xs, rfl, .inr h1, h2, h3⟩
  · obtain ⟨xs, rfl, h0, h1, h2, h3⟩ := e2
    exact ⟨a0, xs, rs_obj h0, .inl ⟨h1, (n a0 (by simp)).2.2.1⟩, h2, h3⟩
theorem qvdT (i : Nat) {x : Str} {pos : Pos} (hN : X.N[i]? = some x := by rfl) (hv : Vis X.env.scope x := by first | exact Or.inl rfl | exact Or.inr (Or.inl rfl) | exact Or.inr (Or.inr rfl)) (hd : (x == ("__debug__" : Str)) = false := by decide) (hcd : (x == ("__classdict__" : Str)) = false := by decide) :
    QX rD1 K PO X (.Name x pos) (tVar i) (pVdT i) := by
  refine ⟨pv i hN hv hd hcd, fun {B G0 G H pl σ ρ Q post} r hp hq => ?_⟩
  obtain ⟨vl, ds, e, al, hpost⟩ := hp
  obtain ⟨v, A, e1, e2, _, n⟩ := r.var e
  refine ⟨v, e1, hq v ds G H pl (Stp.refl r.ok) ?_ hpost⟩
  rcases al with rfl | rfl
  · obtain ⟨a, xs, rfl, rfl, h1, h2, h3⟩ := e2
    exact ⟨a, xs, rfl, .inl ⟨h1, (n a (by simp)).2.2.1⟩, h2, h3⟩
  · obtain ⟨a, xs, rfl, h1, h2, h3⟩ := rs_dT e2.2
    exact ⟨a, xs, rfl, .inr h1, h2, h3⟩
/-- {} -/
def pDnew : PX Vl := fun _ post => post (.oK [])
def pDnewT : PX Vl := fun _ post => post (.oT [])
theorem qo_dnew {pos : Pos} : QO K PO X (.Dict [] [] pos) tDNewK pDnew := ⟨pe_dnewK, fun {B G0 G H pl σ ρ Q post} r hp hq => fun p hn => by
  refine hq _ (.oK []) [p] G _ pl (Stp.tmp r.ok hn) ⟨p, [], rfl, rfl, upd_same, Rk.nil, by simp⟩ (by simp) (fun a ha => ?_) hp
  rw [List.mem_singleton.mp ha]
  exact ⟨hn, r.ok.sub.free hn, fun z => r.ok.live p z hn⟩⟩
theorem qo_dnewT {pos : Pos} : QO K PO X (.Dict [] [] pos) tDNewT pDnewT := ⟨pe_dnewT, fun {B G0 G H pl σ ρ Q post} r hp hq => fun p hn => by
  refine hq _ (.oT []) [p] G _ pl (Stp.tmp r.ok hn) ⟨p, [], rfl, rfl, upd_same, Rt.nil, by simp⟩ (by simp) (fun a ha => ?_) hp
  rw [List.mem_singleton.mp ha]
  exact ⟨hn, r.ok.sub.free hn, fun z => r.ok.live p z hn⟩⟩
/-- d[k] -/
def fDget : List (Key × PV) → PV → (PV → Prop) → Prop := fun kvs y post => ∃ k d, keyOf y = some k ∧ lookD kvs k = some d ∧ post d
def fDgetT : List (List Key × PV) → PV → (PV → Prop) → Prop := fun kvs y post => ∃ ds k d, y = .tup ds ∧ keysOf ds = some k ∧ lookD kvs k = some d ∧ post d
theorem qe_dget {o i : Expr} {pos : Pos} {td ty : TE} {pd : PX (List (Key × PV))} {py : PX PV} (hu : X.A.units + 1 < cLine) (ho : QX rD0 K PO X o td pd) (hi : QX rS K PO X i ty py) (hs : NoSl i) : QX rS K PO X (.Subscript o i pos) (tDGet td ty) (pOp fDget pd py) :=
  ⟨pe_dget hu ho.pe hi.pe hs, fun {B G0 G H pl σ ρ Q post} r hp hq => ho.sd r hp fun x kvs G1 H1 pl1 s1 hd hp1 => hi.sd (r.step s1) hp1 fun y e G2 H2 pl2 s2 he hp2 => by
    obtain ⟨k, d, hk, hl, hp3⟩ := hp2
    obtain ⟨a, xs, rfl, h1, h2, h3⟩ := rD0.st s1.ok s2 hd
    obtain ⟨z, z1, z2⟩ := (rk_look k h2).1 d hl
    refine ⟨a, z, rfl, ?_, hq z d G2 H2 pl2 (s1.trans r.ok s2) z2 hp3⟩
    exact .inl ⟨xs, k, rd_of s2.ok h1, keyOf_ok (K := K) (pl := pl2) (G := G2) he hk, z1.symm⟩⟩
theorem qe_dgetT {o i : Expr} {pos : Pos} {td ty : TE} {pd : PX (List (List Key × PV))} {py : PX PV} (hu : X.A.units + 1 < cLine) (ho : QX rD1 K PO X o td pd) (hi : QX rS K PO X i ty py) (hs : NoSl i) : QX rS K PO X (.Subscript o i pos) (tDGet td ty) (pOp fDgetT pd py) :=
  ⟨pe_dget hu ho.pe hi.pe hs, fun {B G0 G H pl σ ρ Q post} r hp hq => ho.sd r hp fun x kvs G1 H1 pl1 s1 hd hp1 => hi.sd (r.step s1) hp1 fun y e G2 H2 pl2 s2 he hp2 => by
    obtain ⟨ds, k, d, rfl, hk, hl, hp3⟩ := hp2
    obtain ⟨a, xs, rfl, h1, h2, h3⟩ := rD1.st s1.ok s2 hd
    obtain ⟨z, z1, z2⟩ := (rt_look k h2).1 d hl
    obtain ⟨b, ys, rfl, w1, w2, _⟩ := rs_tupH (K := K) (pl := pl2) (G := G2) he
    refine ⟨a, z, rfl, ?_, hq z d G2 H2 pl2 (s1.trans r.ok s2) z2 hp3⟩
    refine .inr ⟨xs, k, b, rd_of s2.ok h1, rfl, ?_, z1.symm⟩
    rw [← keysOf_ok w2 hk]
    exact s2.ok.sub _ _ w1⟩
/-- k in d -/
def fDin (n : Bool) : PV → List (Key × PV) → (PV → Prop) → Prop := fun y kvs post => ∃ k, keyOf y = some k ∧ post (.bl (if n then !(lookD kvs k).isSome else (lookD kvs k).isSome))
def fDinT (n : Bool) : PV → List (List Key × PV) → (PV → Prop) → Prop := fun y kvs post => ∃ ds k, y = .tup ds ∧ keysOf ds = some k ∧ post (.bl (if n then !(lookD kvs k).isSome else (lookD kvs k).isSome))
theorem rk_some {pl : PL} {G : Hp} {kvs : List (Key × PV)} {xs : List (Key × V)} (k : Key) (h : Rk K pl G kvs xs) : (valV xs k).isSome = (lookD kvs k).isSome := by
  obtain ⟨h1, h2⟩ := rk_look k h
  cases e : lookD kvs k with
  | none => rw [h2 e]; rfl
  | some d => obtain ⟨x, e1, _⟩ := h1 d e; rw [e1]; rfl
theorem rt_some {pl : PL} {G : Hp} {kvs : List (List Key × PV)} {xs : List (List Key × V)} (k : List Key) (h : Rt K pl G kvs xs) : (valV xs k).isSome = (lookD kvs k).isSome := by
  obtain ⟨h1, h2⟩ := rt_look k h
  cases e : lookD kvs k with
  | none => rw [h2 e]; rfl
  | some d => obtain ⟨x, e1, _⟩ := h1 d e; rw [e1]; rfl
structure QC (K : PySem.W.Frag) (PO : POk) (X : Cx) (op : CmpOp) (a b : Expr) (t : TE) (p : PX PV) : Prop where
  pe : PC X op a b t
  sd : SX rS K PO t p
theorem sx_din {td ty : TE} {pd : PX (List (Key × PV))} {py : PX PV} (hi : SX rS K PO ty py) (ho : SX rD0 K PO td pd) : SX rS K PO (tDIn ty td) (pOp (fDin false) py pd) ∧ SX rS K PO (tDNotIn ty td) (pOp (fDin true) py pd) := by
  refine ⟨fun {B G0 G H pl σ ρ Q post} r hp hq => hi r hp fun y e G1 H1 pl1 s1 he hp1 => ho (r.step s1) hp1 fun x kvs G2 H2 pl2 s2 hd hp2 => ?_, fun {B G0 G H pl σ ρ Q post} r hp hq => hi r hp fun y e G1 H1 pl1 s1 he hp1 => ho (r.step s1) hp1 fun x kvs G2 H2 pl2 s2 hd hp2 => ?_⟩
  all_goals
    obtain ⟨k, hk, hp3⟩ := hp2
    obtain ⟨a, xs, rfl, h1, h2, h3⟩ := hd
    refine ⟨a, _, rfl, .inl ⟨xs, k, rd_of s2.ok h1, keyOf_ok (K := K) (pl := pl1) (G := G1) he hk, rfl⟩, ?_⟩
    rw [rk_some k h2]
    exact hq _ (.bl _) G2 H2 pl2 (s1.trans r.ok s2) (show Rs K pl2 G2 _ _ from Rs.bl) hp3
theorem sx_dinT {td ty : TE} {pd : PX (List (List Key × PV))} {py : PX PV} (hi : SX rS K PO ty py) (ho : SX rD1 K PO td pd) : SX rS K PO (tDIn ty td) (pOp (fDinT false) py pd) ∧ SX rS K PO (tDNotIn ty td) (pOp (fDinT true) py pd) := by
  refine ⟨fun {B G0 G H pl σ ρ Q post} r hp hq => hi r hp fun y e G1 H1 pl1 s1 he hp1 => ho (r.step s1) hp1 fun x kvs G2 H2 pl2 s2 hd hp2 => ?_, fun {B G0 G H pl σ ρ Q post} r hp hq => hi r hp fun y e G1 H1 pl1 s1 he hp1 => ho (r.step s1) hp1 fun x kvs G2 H2 pl2 s2 hd hp2 => ?_⟩
  all_goals
    obtain ⟨ds, k, rfl, hk, hp3⟩ := hp2
    obtain ⟨a, xs, rfl, h1, h2, h3⟩ := hd
    obtain ⟨b, ys, rfl, w1, w2, _⟩ := rs_tupH (K := K) (pl := pl1) (G := G1) he
    refine ⟨a, _, rfl, .inr ⟨xs, k, b, rd_of s2.ok h1, rfl, ?_, rfl⟩, ?_⟩
    · rw [← keysOf_ok w2 hk]
      exact s2.ok.sub _ _ (s2.g _ _ w1)
    · rw [rt_some k h2]
      exact hq _ (.bl _) G2 H2 pl2 (s1.trans r.ok s2) (show Rs K pl2 G2 _ _ from Rs.bl) hp3
section
variable {o i : Expr} {td ty : TE} {pd : PX (List (Key × PV))} {pdT : PX (List (List Key × PV))} {py : PX PV}
theorem qc_din (hu : X.A.units + 1 < cLine) (hi : QX rS K PO X i ty py) (ho : QX rD0 K PO X o td pd) : QC K PO X .In i o (tDIn ty td) (pOp (fDin false) py pd) := ⟨pc_din hu hi.pe ho.pe, (sx_din hi.sd ho.sd).1⟩
theorem qc_dnin (hu : X.A.units + 1 < cLine) (hi : QX rS K PO X i ty py) (ho : QX rD0 K PO X o td pd) : QC K PO X .NotIn i o (tDNotIn ty td) (pOp (fDin true) py pd) := ⟨pc_dnotin hu hi.pe ho.pe, (sx_din hi.sd ho.sd).2⟩
theorem qc_dinT (hu : X.A.units + 1 < cLine) (hi : QX rS K PO X i ty py) (ho : QX rD1 K PO X o td pdT) : QC K PO X .In i o (tDIn ty td) (pOp (fDinT false) py pdT) := ⟨pc_din hu hi.pe ho.pe, (sx_dinT hi.sd ho.sd).1⟩
theorem qc_dninT (hu : X.A.units + 1 < cLine) (hi : QX rS K PO X i ty py) (ho : QX rD1 K PO X o td pdT) : QC K PO X .NotIn i o (tDNotIn ty td) (pOp (fDinT true) py pdT) := ⟨pc_dnotin hu hi.pe ho.pe, (sx_dinT hi.sd ho.sd).2⟩
end
theorem qe_din {op : CmpOp} {a b : Expr} {pos : Pos} {t : TE} {p : PX PV} (h : QC K PO X op a b t p) (h1 : behindInMarks op b = false := by rfl) : QX rS K PO X (.Compare a [op] [b] pos) t p := ⟨pe_cmp h.pe h1, h.sd⟩
theorem qt_din {op : CmpOp} {a b : Expr} {pos : Pos} {t : TE} {p : PX PV} (h : QC K PO X op a b t p) (h1 : behindInMarks op b = false := by rfl) : QT K PO X (.Compare a [op] [b] pos) (tB t) (pB p) := ⟨pt_cmp h.pe h1, st_b h.sd⟩
/-- d.get(k, x) -/
def pDget2 (pd : PX (List (Key × PV))) (py px : PX PV) : PX PV := fun ρ post => pd ρ fun kvs => py ρ fun y => px ρ fun z => ∃ k, keyOf y = some k ∧ post ((lookD kvs k).getD z)
def pDget2T (pd : PX (List (List Key × PV))) (py px : PX PV) : PX PV := fun ρ post => pd ρ fun kvs => py ρ fun y => px ρ fun z => ∃ ds k, y = .tup ds ∧ keysOf ds = some k ∧ post ((lookD kvs k).getD z)
theorem qe_dget2 {o e f : Expr} {apos cpos : Pos} {td ty tx : TE} {pd : PX (List (Key × PV))} {py px : PX PV} (hu : X.A.units + 1 < cLine) (ho : QX rD0 K PO X o td pd) (he : QX rS K PO X e ty py) (hf : QX rS K PO X f tx px) (m : M2 X o "get" apos e f cpos) : QX rS K PO X (.Call (.Attribute o "get" apos) [e, f] [] cpos) (tDGet2 td ty tx) (pDget2 pd py px) :=
  ⟨pe_dget2 hu ho.pe he.pe hf.pe m, fun {B G0 G H pl σ ρ Q post} r hp hq => ho.sd r hp fun x kvs G1 H1 pl1 s1 hd hp1 => by
    have hd0 := hd
    obtain ⟨a0, xs0, rfl, h10, _⟩ := hd0
    refine ⟨a0, rfl, .inl ⟨xs0, rd_of s1.ok h10⟩, he.sd (r.step s1) hp1 fun y e G2 H2 pl2 s2 he' hp2 => hf.sd ((r.step s1).step s2) hp2 fun z c G3 H3 pl3 s3 hz hp3 => ?_⟩
    obtain ⟨k, hk, hp4⟩ := hp3
    obtain ⟨a, xs, ea, h1, h2, h3⟩ := rD0.st s2.ok s3 (rD0.st s1.ok s2 hd)
    cases ea
    refine ⟨_, .inl ⟨xs, k, rd_of s3.ok h1, keyOf_ok (K := K) (pl := pl2) (G := G2) he' hk, rfl⟩, ?_⟩
    obtain ⟨q1, q2⟩ := rk_look k h2
    cases el : lookD kvs k with
    | none =>
      rw [el] at hp4
      rw [q2 el]
      exact hq z c G3 H3 pl3 ((s1.trans r.ok s2).trans r.ok s3) hz hp4
    | some d =>
      rw [el] at hp4
      obtain ⟨w, w1, w2⟩ := q1 d el
      rw [w1]
      exact hq w d G3 H3 pl3 ((s1.trans r.ok s2).trans r.ok s3) w2 hp4⟩
theorem qe_dget2T {o e f : Expr} {apos cpos : Pos} {td ty tx : TE} {pd : PX (List (List Key × PV))} {py px : PX PV} (hu : X.A.units + 1 < cLine) (ho : QX rD1 K PO X o td pd) (he : QX rS K PO X e ty py) (hf : QX rS K PO X f tx px) (m : M2 X o "get" apos e f cpos) : QX rS K PO X (.Call (.Attribute o "get" apos) [e, f] [] cpos) (tDGet2 td ty tx) (pDget2T pd py px) :=
  ⟨pe_dget2 hu ho.pe he.pe hf.pe m, fun {B G0 G H pl σ ρ Q post} r hp hq => ho.sd r hp fun x kvs G1 H1 pl1 s1 hd hp1 => by
    have hd0 := hd
    obtain ⟨a0, xs0, rfl, h10, _⟩ := hd0
    refine ⟨a0, rfl, .inr ⟨xs0, rd_of s1.ok h10⟩, he.sd (r.step s1) hp1 fun y e G2 H2 pl2 s2 he' hp2 => hf.sd ((r.step s1).step s2) hp2 fun z c G3 H3 pl3 s3 hz hp3 => ?_⟩
    obtain ⟨ds, k, rfl, hk, hp4⟩ := hp3
    obtain ⟨a, xs, ea, h1, h2, h3⟩ := rD1.st s2.ok s3 (rD1.st s1.ok s2 hd)
    cases ea
    obtain ⟨b, ys, rfl, w1, w2, _⟩ := rs_tupH (K := K) (pl := pl2) (G := G2) he'
    refine ⟨_, .inr ⟨xs, k, b, rd_of s3.ok h1, rfl, ?_, rfl⟩, ?_⟩
    · rw [← keysOf_ok w2 hk]
      exact s3.ok.sub _ _ (s3.g _ _ w1)
    obtain ⟨q1, q2⟩ := rt_look k h2
    cases el : lookD kvs k with
    | none =>
      rw [el] at hp4
      rw [q2 el]
      exact hq z c G3 H3 pl3 ((s1.trans r.ok s2).trans r.ok s3) hz hp4
    | some d =>
      rw [el] at hp4
      obtain ⟨w, w1, w2⟩ := q1 d el
      rw [w1]
      exact hq w d G3 H3 pl3 ((s1.trans r.ok s2).trans r.ok s3) w2 hp4⟩
/-- d[k] = e -/
def pDput (i : Nat) (pk p : PX PV) : PSt := fun P ρ => p ρ fun d => ∃ kvs, ρ[i]? = some (some (.oK kvs)) ∧ pk ρ fun y => ∃ k, keyOf y = some k ∧ (kvs.map (·.1)).Nodup ∧ kvs.length < 16777216 ∧ P.nx (ρ.set i (some (.oK (putD kvs k d))))
theorem ss_dput {i : Nat} {tk te : TE} {pk p : PX PV} (hk : SX rS K PO tk pk) (h : SX rS K PO te p) : SS K PO W (tAsg te (gSub (tVar i) tk rSetD)) (pDput i pk p) := fun {B G0 G H pl σ ρ D P} r e hp => h r hp fun w d G1 H1 pl1 s1 hd hp1 => by
  obtain ⟨kvs, ei, hp1⟩ := hp1
  have r1 := r.step s1
  obtain ⟨v, A, ev, _⟩ := r1.var ei
  refine ⟨v, ev, hk r1 hp1 fun y dy G2 H2 pl2 s2 hdy hp2 => ?_⟩
  obtain ⟨k, hk', nd, hl, hp3⟩ := hp2
  have r2 := r1.step s2
  obtain ⟨v', A', g1, g2, ndA, n, fin⟩ := r2.mut ei
  rw [ev] at g1
  cases g1
  obtain ⟨a, xs, rfl, rfl, k1, k2, k3⟩ := g2
  have hkeys := rk_keys k2
  have hlen : xs.length = kvs.length := by have := congrArg List.length hkeys; rwa [List.length_map, List.length_map] at this
  refine ⟨a, _, rfl, .inl ⟨xs, k, k1, keyOf_ok (K := K) (pl := pl2) (G := G2) hdy hk', by rw [line_eq]; omega, rfl⟩, e.nx (s1.g.trans s2.g) (s1.le.trans s2.le) (fin (upd H2 a (.dK (putK xs k w))) (.oK (putD kvs k d)) [a] (fun b hb => upd_ne fun z => hb (by simp [z])) (fun b hb => ?_) ⟨a, _, rfl, rfl, upd_same, ?_, ?_⟩ (by simp) (fun b hb => hb)) hp3⟩
  · rw [List.mem_singleton.mp hb, upd_same]; simp
  · rw [put_eq xs k w (by rw [hkeys]; exact nd)]
    exact rk_put (Rs.mono s2.g s2.le _ _ hd) k k2
  · have := putD_len k d kvs; omega
theorem qs_dput {i : Nat} {x : Str} {ek e : Expr} {p0 spos pos : Pos} {tk te : TE} {pk p : PX PV} (hk : QX rS K PO X ek tk pk) (h : QX rS K PO X e te p) (hpe : PE X ek tk → PG X (.Subscript (.Name x p0) ek spos) (gSub (tVar i) tk rSetD))
    (hs : swapsWithSole [.Subscript (.Name x p0) ek spos] e pos.line X.env = pure false := by rfl) (hw : swappedStores [.Subscript (.Name x p0) ek spos] e X.env = pure none := by rfl)
    (h1 : (assignEach [.Subscript (.Name x p0) ek spos] X.env).map (·.2) = [assign (.Subscript (.Name x p0) ek spos) X.env] := by rfl) :
    QS K PO W X (.Assign [.Subscript (.Name x p0) ek spos] e pos) (tAsg te (gSub (tVar i) tk rSetD)) (pDput i pk p) := ⟨ps_asg h.pe (hpe hk.pe) hs hw h1, ss_dput hk.sd h.sd⟩
def pDputT (i : Nat) (pk p : PX PV) : PSt := fun P ρ => p ρ fun d => ∃ kvs, ρ[i]? = some (some (.oT kvs)) ∧ pk ρ fun y => ∃ ds k, y = .tup ds ∧ keysOf ds = some k ∧ (kvs.map (·.1)).Nodup ∧ kvs.length < 16777216 ∧ P.nx (ρ.set i (some (.oT (putD kvs k d))))
theorem ss_dputT {i : Nat} {tk te : TE} {pk p : PX PV} (hk : SX rS K PO tk pk) (h : SX rS K PO te p) : SS K PO W (tAsg te (gSub (tVar i) tk rSetD)) (pDputT i pk p) := fun {B G0 G H pl σ ρ D P} r e hp => h r hp fun w d G1 H1 pl1 s1 hd hp1 => by
  obtain ⟨kvs, ei, hp1⟩ := hp1
  have r1 := r.step s1
  obtain ⟨v, A, ev, _⟩ := r1.var ei
  refine ⟨v, ev, hk r1 hp1 fun y dy G2 H2 pl2 s2 hdy hp2 => ?_⟩
  obtain ⟨ds, k, rfl, hk', nd, hl, hp3⟩ := hp2
  have r2 := r1.step s2
  obtain ⟨v', A', g1, g2, ndA, n, fin⟩ := r2.mut ei
  rw [ev] at g1
  cases g1
  obtain ⟨a, xs, rfl, rfl, k1, k2, k3⟩ := g2
  have hkeys := rt_keys k2
  have hlen : xs.length = kvs.length := by have := congrArg List.length hkeys; rwa [List.length_map, List.length_map] at this
  obtain ⟨b, ys, rfl, w1, w2, _⟩ := rs_tupH (K := K) (pl := pl2) (G := G2) hdy
  refine ⟨a, _, rfl, .inr ⟨xs, k, b, k1, rfl, by rw [← keysOf_ok w2 hk']; exact s2.ok.sub _ _ w1, by rw [line_eq]; omega, rfl⟩, e.nx (s1.g.trans s2.g) (s1.le.trans s2.le) (fin (upd H2 a (.dT (putK xs k w))) (.oT (putD kvs k d)) [a] (fun b hb => upd_ne fun z => hb (by simp [z])) (fun b hb => ?_) ⟨a, _, rfl, rfl, upd_same, ?_, ?_⟩ (by simp) (fun b hb => hb)) hp3⟩
  · rw [List.mem_singleton.mp hb, upd_same]; simp
  · rw [put_eq xs k w (by rw [hkeys]; exact nd)]
    exact rt_put (Rs.mono s2.g s2.le _ _ hd) k k2
  · have := putD_len k d kvs; omega
theorem qs_dputT {i : Nat} {x : Str} {ek e : Expr} {p0 spos pos : Pos} {tk te : TE} {pk p : PX PV} (hk : QX rS K PO X ek tk pk) (h : QX rS K PO X e te p) (hpe : PE X ek tk → PG X (.Subscript (.Name x p0) ek spos) (gSub (tVar i) tk rSetD))
    (hs : swapsWithSole [.Subscript (.Name x p0) ek spos] e pos.line X.env = pure false := by rfl) (hw : swappedStores [.Subscript (.Name x p0) ek spos] e X.env = pure none := by rfl)
    (h1 : (assignEach [.Subscript (.Name x p0) ek spos] X.env).map (·.2) = [assign (.Subscript (.Name x p0) ek spos) X.env] := by rfl) :
    QS K PO W X (.Assign [.Subscript (.Name x p0) ek spos] e pos) (tAsg te (gSub (tVar i) tk rSetD)) (pDputT i pk p) := ⟨ps_asg h.pe (hpe hk.pe) hs hw h1, ss_dputT hk.sd h.sd⟩
/-! ## more statements -/
/-- x = [.. for ..] on one row -/
theorem qs_setLcS {i : Nat} {y : Str} {py : Pos} {elt tg iter : Expr} {ifs : List Expr} {scope : Scope} {own : List (Str × Nat)} {pos spos : Pos} {wi : TI} {g : TG} {tt : TT} {te : TE} {src : PX (List PV)} {ws : List Nat} {q : PV → En → (En → Prop) → Prop} {pt : PX Bool} {pe : PX PV} (hc : X.calm = true) (hN : X.N.Nodup) (hy : X.N[i]? = some y) (hyl : X.env.scope.names.lookup y = some .local)
    (hsw : swapsWith (.ListComp elt [⟨tg, iter, ifs, 0⟩] scope pos) (some (.Name y py)) spos.line X.env = pure true) (hi : QIc K PO X tg iter wi src) (ok : BlkOk X.N X.env.scope scope own)
    (hg : ∀ (s : Shared) (H : Hp) (C : Addr) (cl : List (Str × Addr)) (fp : List Addr), QG K PO (X.blk s H scope (compEnvC scope cl C X.env) fp) tg g ws q) (ht : ∀ (s : Shared) (H : Hp) (C : Addr) (cl : List (Str × Addr)) (fp : List Addr), QTs K PO (X.blk s H scope (compEnvC scope cl C X.env) fp) ifs tt pt)
    (he : ∀ (s : Shared) (H : Hp) (C : Addr) (cl : List (Str × Addr)) (fp : List Addr), QX rS K PO (X.blk s H scope (compEnvC scope cl C X.env) fp) elt te pe) (hw : ∀ j ∈ ws, j ∈ own.map (·.2)) (hs : ∀ x, foldedSetIterable iter X.env x = pure x := by intro _; rfl) :
    QS K PO W X (.Assign [.Name y py] (.ListComp elt [⟨tg, iter, ifs, 0⟩] scope pos) spos) (tAsg (tLc wi g tt te (own.map (·.2))) (gName i)) (pSet i (pSh (pFz (pLc src q pt pe (own.map (·.2)))))) := by
  have so : SO K PO (tLc wi g tt te (own.map (·.2))) (pLc src q pt pe (own.map (·.2))) := so_lc hw hi.sd (hg X.s_0 X.H_0 0 [] []).sd (ht X.s_0 X.H_0 0 [] []).sd (he X.s_0 X.H_0 0 [] []).sd
  refine ⟨ps_setLc hc hN hy hyl hsw hi.pe ok (fun s H C cl fp => (hg s H C cl fp).pe) (fun s H C cl fp => (ht s H C cl fp).pe) (fun s H C cl fp => (he s H C cl fp).pe) hs, ?_⟩
  have sm : SM K PO (tLc wi g tt te (own.map (·.2))) (pSh (pFz (pLc src q pt pe (own.map (·.2))))) := fun {B G0 G H pl σ ρ Q post} r hp hq => so (post := fun vl => post (.sh vl.frz) ρ) r hp fun v vl A G' H' pl' s hd nd n hpost => by
    have s2 := s.freeze n
    exact hq v (.sh vl.frz) _ _ H' pl' s2.g s2.le ((r.step s2).pushS (hd.freeze fun a ha => (n a ha).2.1)) hpost
  exact @ss_set K PO W i _ _ sm
theorem qs_setLc {i : Nat} {y : Str} {py : Pos} {elt tg iter : Expr} {ifs : List Expr} {scope : Scope} {own : List (Str × Nat)} {pos spos : Pos} {wi : TI} {g : TG} {tt : TT} {te : TE} {src : PX (List PV)} {ws : List Nat} {q : PV → En → (En → Prop) → Prop} {pt : PX Bool} {pe : PX PV} (hc : X.calm = true) (hN : X.N.Nodup) (hy : X.N[i]? = some y) (hyl : X.env.scope.names.lookup y = some .local)
    (hsw : swapsWith (.ListComp elt [⟨tg, iter, ifs, 0⟩] scope pos) (some (.Name y py)) spos.line X.env = pure true) (hi : QIc K PO X tg iter wi src) (ok : BlkOk X.N X.env.scope scope own)
    (hg : ∀ (s : Shared) (H : Hp) (C : Addr) (cl : List (Str × Addr)) (fp : List Addr), QG K PO (X.blk s H scope (compEnvC scope cl C X.env) fp) tg g ws q) (ht : ∀ (s : Shared) (H : Hp) (C : Addr) (cl : List (Str × Addr)) (fp : List Addr), QTs K PO (X.blk s H scope (compEnvC scope cl C X.env) fp) ifs tt pt)
    (he : ∀ (s : Shared) (H : Hp) (C : Addr) (cl : List (Str × Addr)) (fp : List Addr), QX rS K PO (X.blk s H scope (compEnvC scope cl C X.env) fp) elt te pe) (hw : ∀ j ∈ ws, j ∈ own.map (·.2)) (hs : ∀ x, foldedSetIterable iter X.env x = pure x := by intro _; rfl) :
    QS K PO W X (.Assign [.Name y py] (.ListComp elt [⟨tg, iter, ifs, 0⟩] scope pos) spos) (tAsg (tLc wi g tt te (own.map (·.2))) (gName i)) (pSet i (pNw (pLc src q pt pe (own.map (·.2))))) := by
  have so : SO K PO (tLc wi g tt te (own.map (·.2))) (pLc src q pt pe (own.map (·.2))) := so_lc hw hi.sd (hg X.s_0 X.H_0 0 [] []).sd (ht X.s_0 X.H_0 0 [] []).sd (he X.s_0 X.H_0 0 [] []).sd
  have sm : SM K PO (tLc wi g tt te (own.map (·.2))) (pNw (pLc src q pt pe (own.map (·.2)))) := fun {B G0 G H pl σ ρ Q post} r hp hq => so (post := fun vl => post vl ρ) r hp fun v vl A G' H' pl' s hd nd n hpost => hq v vl _ G' H' pl' s.g s.le (r.push s hd nd n) hpost
  exact ⟨ps_setLc hc hN hy hyl hsw hi.pe ok (fun s H C cl fp => (hg s H C cl fp).pe) (fun s H C cl fp => (ht s H C cl fp).pe) (fun s H C cl fp => (he s H C cl fp).pe) hs, ss_set (te := tLc wi g tt te (own.map (·.2))) (p := pNw (pLc src q pt pe (own.map (·.2)))) sm⟩
/-- a, b = x, y -/
def pPar (i j : Nat) (p q : PX PV) : PSt := fun P ρ => p ρ fun d => q ρ fun e => P.nx ((ρ.set i (some (.sh d))).set j (some (.sh e)))
theorem qs_par {i j : Nat} {x y : Str} {a b : Expr} {ta tb : TE} {px py pt : Pos} {kt k2 pt2} {pos : Pos} {p q : PX PV} (hc : X.calm = true) (hN : X.N.Nodup) (hi : X.N[i]? = some x) (hj : X.N[j]? = some y) (hij : i ≠ j)
    (hx : X.env.scope.names.lookup x = some .local) (hy : X.env.scope.names.lookup y = some .local) (h1 : QX rS K PO X a ta p) (h2 : QX rS K PO X b tb q)
    (n1 : starEach (a :: [b]) X.env = (false, eval a X.env) :: starEach [b] X.env := by rfl) (n2 : starEach (b :: []) X.env = (false, eval b X.env) :: starEach [] X.env := by rfl)
    (hw : swappedStores [.Tuple [.Name x px, .Name y py] kt pt] (.Tuple [a, b] k2 pt2) X.env = pure (some [x, y]) := by rfl)
    (hs : swapsWithSole [.Tuple [.Name x px, .Name y py] kt pt] (.Tuple [a, b] k2 pt2) pos.line X.env = pure false := by rfl) :
    QS K PO W X (.Assign [.Tuple [.Name x px, .Name y py] kt pt] (.Tuple [a, b] k2 pt2) pos) (tPar i j (tCons ta (tCons tb tNil))) (pPar i j p q) :=
  ⟨ps_par hc hN hi hj hij hx hy (pa_cons h1.pe (pa_cons h2.pe pa_nil n2) n1) hw hs, fun {B G0 G H pl σ ρ D P} r e hp => h1.sd r hp fun v d G1 H1 pl1 s1 hd hp1 => h2.sd (r.step s1) hp1 fun w f G2 H2 pl2 s2 hf hp2 => by
    refine ⟨v, w, rfl, e.nx (s1.g.trans s2.g) (s1.le.trans s2.le) ?_ hp2⟩
    have r2 := (r.step s1).step s2
    have r3 := (r2.pushS (Rs.mono s2.g s2.le _ _ hd)).set (i := i)
    exact (r3.pushS hf).set⟩
/-- xs.extend(ys) -/
def pExt (i : Nat) (p : PX (List PV)) : PSt := fun P ρ => ∃ ds, ρ[i]? = some (some (.ol ds)) ∧ p ρ fun es => ds.length + es.length ≤ 16777216 ∧ P.nx (ρ.set i (some (.ol (ds ++ es))))
theorem qs_ext {i : Nat} {o e : Expr} {apos cpos pos : Pos} {te : TE} {p : PX (List PV)} (hK : X.K = K) (h : QX rL K PO X e te p) (hpe : PE X e te → PE X (.Call (.Attribute o "extend" apos) [e] [] cpos) (tBM X.K "list" rExtend (tVar i) (tCons te tNil))) (hs : swapsWith (.Call (.Attribute o "extend" apos) [e] [] cpos) none pos.line X.env = pure false := by rfl) :
    QS K PO W X (.Expr (.Call (.Attribute o "extend" apos) [e] [] cpos) pos) (tDrop (tBM K "list" rExtend (tVar i) (tCons te tNil))) (pExt i p) := by
  subst hK
  refine ⟨ps_expr (hpe h.pe) hs, fun {B G0 G H pl σ ρ D P} r e hp => ?_⟩
  obtain ⟨ds, ei, hp⟩ := hp
  obtain ⟨v0, A0, ev, e0, _⟩ := r.var ei
  obtain ⟨a, xs0, rfl, _, k0, _⟩ := e0
  refine ⟨.ref a, ev, .inl ⟨rfl, _, SqL.of k0⟩, h.sd r hp fun y es G1 H1 pl1 s1 hy hp1 => ?_⟩
  obtain ⟨hl, hp1⟩ := hp1
  have r1 := r.step s1
  obtain ⟨v, A, ev', e2, nd, n, fin⟩ := r1.mut ei
  rw [ev] at ev'
  cases ev'
  obtain ⟨b, xs, eb, rfl, k1, k2, k3⟩ := e2
  cases eb
  obtain ⟨c, ys, rfl, q1, q2, q3, q4⟩ := hy
  refine ⟨a, c, xs, ys, rfl, rfl, k1, q1, by rw [k2.len, q3.len, line_eq]; exact hl, e.nx s1.g s1.le (fin (upd H1 a (.lst (xs ++ ys))) (.ol (ds ++ es)) [a] (fun b hb => upd_ne fun z => hb (by simp [z])) (fun b hb => ?_) ⟨a, _, rfl, rfl, upd_same, k2.app q3, ?_⟩ (by simp) (fun b hb => hb)) hp1⟩
  · rw [List.mem_singleton.mp hb, upd_same]; simp
  · rw [List.length_append]; exact hl
/-- xs.reverse() -/
def pRevI (i : Nat) : PSt := fun P ρ => ∃ ds, ρ[i]? = some (some (.ol ds)) ∧ P.nx (ρ.set i (some (.ol ds.reverse)))
theorem qs_revI {i : Nat} {o : Expr} {apos cpos pos : Pos} (hK : X.K = K) (hpe : PE X (.Call (.Attribute o "reverse" apos) [] [] cpos) (tBM0 X.K "list" rReverse (tVar i))) (hs : swapsWith (.Call (.Attribute o "reverse" apos) [] [] cpos) none pos.line X.env = pure false := by rfl) :
    QS K PO W X (.Expr (.Call (.Attribute o "reverse" apos) [] [] cpos) pos) (tDrop (tBM0 K "list" rReverse (tVar i))) (pRevI i) := by
  subst hK
  refine ⟨ps_expr hpe hs, fun {B G0 G H pl σ ρ D P} r e hp => ?_⟩
  obtain ⟨ds, ei, hp⟩ := hp
  obtain ⟨v, A, ev, e2, nd, n, fin⟩ := r.mut ei
  obtain ⟨a, xs, rfl, rfl, k1, k2, k3⟩ := e2
  refine ⟨.ref a, ev, .inl ⟨rfl, _, SqL.of k1⟩, a, xs, rfl, rfl, k1, e.nx (Same.refl _) (plLe.refl _) (fin (upd H a (.lst xs.reverse)) (.ol ds.reverse) [a] (fun b hb => upd_ne fun z => hb (by simp [z])) (fun b hb => ?_) ⟨a, _, rfl, rfl, upd_same, k2.rev, ?_⟩ (by simp) (fun b hb => hb)) hp⟩
  · rw [List.mem_singleton.mp hb, upd_same]; simp
  · rw [List.length_reverse]; exact k3
theorem qs_doc {x j pos pos'} : QS K PO W X (.Expr (.Constant (.str x) j pos) pos') tNext pNext := ⟨ps_doc, fun {B G0 G H pl σ ρ D P} r e hp => e.nx (Same.refl _) (plLe.refl _) r hp⟩
/-! ## more expressions -/
theorem qe_chain {op op' : CmpOp} {r r' : R2} {F F' : PV → PV → (PV → Prop) → Prop} {a b c : Expr} {pos : Pos} {ta tb tc : TE} {pa pb pc : PX PV} (ho : OpR X (compareOp op) r) (hf : S2 rS rS rS K PO r F) (ho' : OpR X (compareOp op') r') (hf' : S2 rS rS rS K PO r' F') (ha : QX rS K PO X a ta pa) (hb : QX rS K PO X b tb pb) (hc : QX rS K PO X c tc pc)
    (hm : lastMarks [op, op'] [b, c] = false := by with_unfolding_all rfl) : QX rS K PO X (.Compare a [op, op'] [b, c] pos) (tChain r r' ta tb tc) (pCh F F' pa pb pc) :=
  ⟨pe_chain ho ho' ha.pe hb.pe hc.pe hm, fun {B G0 G H pl σ ρ Q post} r1 hp hq => ha.sd r1 hp fun x d G1 H1 pl1 s1 hd hp1 => hb.sd (r1.step s1) hp1 fun y e G2 H2 pl2 s2 he hp2 => hf s2.ok (rS.st s1.ok s2 hd) he hp2 fun z cc G3 H3 pl3 s3 hcc hp3 => by
    obtain ⟨k, rfl, hp3⟩ := hp3
    refine ⟨k, rs_bl (K := K) (pl := pl3) (G := G3) hcc, ?_⟩
    have s13 := (s1.trans r1.ok s2).trans r1.ok s3
    cases k with
    | false => exact hq _ (.bl false) G3 H3 pl3 s13 (show Rs K pl3 G3 _ _ from Rs.bl) hp3
    | true => exact hc.sd (r1.step s13) hp3 fun w f G4 H4 pl4 s4 hw hp4 => hf' s4.ok (rS.st s3.ok s4 (rS.st s2.ok s3 he)) hw hp4 fun u g G5 H5 pl5 s5 hg hp5 => hq u g G5 H5 pl5 ((s13.trans r1.ok s4).trans r1.ok s5) hg hp5⟩
theorem qe_notT {e : Expr} {pos : Pos} {t : TE} {p : PX PV} (hK : X.K = K) (h : QX rS K PO X e t p) : QX rS K PO X (.UnaryOp .Not e pos) (tNotT K t) (pNotT (pTru p)) := by
  subst hK
  refine ⟨pe_notT h.pe, fun {B G0 G H pl σ ρ Q post} r hp hq => ?_⟩
  have := st_tru (K := X.K) (PO := PO) h.sd (Q := fun k H' => Q (.bl (!k)) H') r hp fun b G' H' pl' s hp1 => hq _ (.bl _) G' H' pl' s (show Rs X.K pl' G' _ _ from Rs.bl) hp1
  exact this
theorem qe_notL {e : Expr} {pos : Pos} {t : TE} {p : PX (List PV)} (hK : X.K = K) (h : QX rL K PO X e t p) : QX rS K PO X (.UnaryOp .Not e pos) (tNotT K t) (pNotT (pTruL p)) := by
  subst hK
  refine ⟨pe_notT h.pe, fun {B G0 G H pl σ ρ Q post} r hp hq => h.sd r hp fun v d G1 H1 pl1 s1 hd hp1 => ?_⟩
  obtain ⟨a, xs, rfl, k1, k2, k3, k4⟩ := hd
  have e : d.isEmpty = xs.isEmpty := by
    have := k3.len
    cases d <;> cases xs <;> simp at this ⊢
  have hp2 : post (.bl (!!xs.isEmpty)) := by rw [← e]; exact hp1
  exact ⟨!xs.isEmpty, .inl ⟨xs, SqL.of k1, rfl⟩, hq _ (.bl _) G1 H1 pl1 s1 (show Rs X.K pl1 G1 _ _ from Rs.bl) hp2⟩
def pRevS (p : PX PV) : PX PV := fun ρ post => p ρ fun d => ∃ l, d = .str l ∧ post (.str l.reverse)
theorem qe_revS {e : Expr} {t : TE} {p : PX PV} {k : Nat} {p1 p2 p3 pos : Pos} (h : QX rS K PO X e t p) : QX rS K PO X (.Subscript e (.Slice none none (some (.UnaryOp .USub (.Constant (.int 1) k p1) p2)) p3) pos) (tRevS t) (pRevS p) :=
  ⟨pe_revS h.pe, fun {B G0 G H pl σ ρ Q post} r hp hq => h.sd r hp fun v d G1 H1 pl1 s1 hd hp1 => by
    obtain ⟨l, rfl, hp2⟩ := hp1
    obtain ⟨rfl, hl⟩ := rs_str (K := K) (pl := pl1) (G := G1) hd
    exact ⟨l, rfl, hl, hq _ (.str l.reverse) G1 H1 pl1 s1 (show Rs K pl1 G1 _ _ from Rs.str (by rw [List.length_reverse]; exact hl)) hp2⟩⟩
def pRevL (p : PX (List PV)) : PX Vl := fun ρ post => p ρ fun ds => post (.ol ds.reverse)
theorem qo_revL {e : Expr} {t : TE} {p : PX (List PV)} {k : Nat} {p1 p2 p3 pos : Pos} (hK : X.K = K) (h : QX rL K PO X e t p) : QO K PO X (.Subscript e (.Slice none none (some (.UnaryOp .USub (.Constant (.int 1) k p1) p2)) p3) pos) (tRevL K t) (pRevL p) := by
  subst hK
  refine ⟨pe_revL h.pe, fun {B G0 G H pl σ ρ Q post} r hp hq => h.sd r hp fun v d G1 H1 pl1 s1 hd hp1 => ?_⟩
  obtain ⟨a, xs, rfl, k1, k2, k3, k4⟩ := hd
  exact ⟨a, xs, rfl, SqL.of k1, fun q hn => so_lst s1.ok k3.rev (by rw [List.length_reverse]; exact k4) hp1 (fun v vl A G2 H2 pl2 s2 hv nd n hp2 => hq v vl A G2 H2 pl2 (s1.trans r.ok s2) hv nd (fun a ha => ⟨fresh_on r.ok s1 (n a ha).1, (n a ha).2⟩) hp2) hn⟩
/-! ### range as a value -/
def SRg (K : PySem.W.Frag) (PO : POk) (t : L2.St → Hp → (Int → Int → Hp → Prop) → Prop) (p : En → (Int → Int → Prop) → Prop) : Prop :=
  ∀ {B G0 G H : Hp} {pl : PL} {σ : L2.St} {ρ : En} {Q : Int → Int → Hp → Prop} {post : Int → Int → Prop}, Rel K PO B G0 G H pl σ ρ → p ρ post → (∀ a b G' H' pl', Stp PO G H pl G' H' pl' → post a b → Q a b H') → t σ H Q
structure QRg (K : PySem.W.Frag) (PO : POk) (X : Cx) (e : Expr) (t : L2.St → Hp → (Int → Int → Hp → Prop) → Prop) (p : En → (Int → Int → Prop) → Prop) : Prop where
  pe : PRg X e t
  sd : SRg K PO t p
def pRg1 (p : PX PV) : En → (Int → Int → Prop) → Prop := fun ρ post => p ρ fun d => ∃ n, d = .int n ∧ post 0 n
def pRg2 (p q : PX PV) : En → (Int → Int → Prop) → Prop := fun ρ post => p ρ fun d => q ρ fun e => ∃ i j, d = .int i ∧ e = .int j ∧ post i j
theorem qrg_1 {a : Expr} {t : TE} {p : PX PV} {p0 pos : Pos} (hg : Gl X "range") (hm : X.mg "range" = none) (h : QX rS K PO X a t p) (na : starEach [a] X.env = (false, eval a X.env) :: starEach [] X.env := by rfl) : QRg K PO X (.Call (.Name "range" p0) [a] [] pos) (tRg1 t) (pRg1 p) :=
  ⟨prg_1 hg hm h.pe na, fun {B G0 G H pl σ ρ Q post} r hp hq => h.sd r hp fun v d G1 H1 pl1 s1 hd hp1 => by
    obtain ⟨n, rfl, hp2⟩ := hp1
    exact ⟨n, rs_int (K := K) (pl := pl1) (G := G1) hd, hq 0 n G1 H1 pl1 s1 hp2⟩⟩
theorem qrg_2 {a b : Expr} {t u : TE} {p q : PX PV} {p0 pos : Pos} (hg : Gl X "range") (hm : X.mg "range" = none) (h : QX rS K PO X a t p) (k : QX rS K PO X b u q) (na : starEach [a, b] X.env = (false, eval a X.env) :: starEach [b] X.env := by rfl) (nb : starEach [b] X.env = (false, eval b X.env) :: starEach [] X.env := by rfl)
    (hpl : (backTo pos (starEach [b] X.env)).any (·.1) = false := by rfl) : QRg K PO X (.Call (.Name "range" p0) [a, b] [] pos) (tRg2 t u) (pRg2 p q) :=
  ⟨prg_2 hg hm h.pe k.pe na nb hpl, fun {B G0 G H pl σ ρ Q post} r hp hq => h.sd r hp fun v d G1 H1 pl1 s1 hd hp1 => k.sd (r.step s1) hp1 fun w e G2 H2 pl2 s2 he hp2 => by
    obtain ⟨i, j, rfl, rfl, hp3⟩ := hp2
    exact ⟨i, j, rs_int (K := K) (pl := pl1) (G := G1) hd, rs_int (K := K) (pl := pl2) (G := G2) he, hq i j G2 H2 pl2 (s1.trans r.ok s2) hp3⟩⟩
theorem rgV_rl {pl : PL} {G : Hp} (a b : Int) : Rl K pl G (rngV a (b - a).toNat) (rgV a b) := by
  unfold rngV rgV
  exact Rl.map fun i _ => Rs.int
def rgCond (a b : Int) : Prop := -1000000000 ≤ a ∧ a ≤ 1000000000 ∧ -1000000000 ≤ b ∧ b ≤ 1000000000 ∧ b - a ≤ 16777216
theorem rgCond.ok {a b : Int} (h : rgCond a b) : RgOk a b := by unfold rgCond at h; exact ⟨by omega, by omega, by omega, by omega, by omega⟩
def pListRg (p : En → (Int → Int → Prop) → Prop) : PX Vl := fun ρ post => p ρ fun a b => rgCond a b ∧ post (.ol (rngV a (b - a).toNat))
def pTupRg (p : En → (Int → Int → Prop) → Prop) : PX PV := fun ρ post => p ρ fun a b => rgCond a b ∧ post (.tup (rngV a (b - a).toNat))
theorem qo_listRg {e : Expr} {p0 pos : Pos} {t : L2.St → Hp → (Int → Int → Hp → Prop) → Prop} {p : En → (Int → Int → Prop) → Prop} (hc : X.calm = true) (hg : Gl X "list") (hm : X.mg "list" = none) (h : QRg K PO X e t p) (na : starEach [e] X.env = (false, eval e X.env) :: starEach [] X.env := by rfl) :
    QO K PO X (.Call (.Name "list" p0) [e] [] pos) (tLstRg t) (pListRg p) :=
  ⟨pe_listRg hc hg hm h.pe na, fun {B G0 G H pl σ ρ Q post} r hp hq => h.sd r hp fun a b G1 H1 pl1 s1 hp1 => ⟨hp1.1.ok, fun q hn => so_lst s1.ok (rgV_rl a b) (by rw [rngV_len]; have := hp1.1; unfold rgCond at this; omega) hp1.2
    (fun v vl A G2 H2 pl2 s2 hv nd n hp2 => hq v vl A G2 H2 pl2 (s1.trans r.ok s2) hv nd (fun a ha => ⟨fresh_on r.ok s1 (n a ha).1, (n a ha).2⟩) hp2) hn⟩⟩
theorem qe_tupRg {e : Expr} {p0 pos : Pos} {t : L2.St → Hp → (Int → Int → Hp → Prop) → Prop} {p : En → (Int → Int → Prop) → Prop} (hc : X.calm = true) (hg : Gl X "tuple") (hm : X.mg "tuple" = none) (h : QRg K PO X e t p) (na : starEach [e] X.env = (false, eval e X.env) :: starEach [] X.env := by rfl) :
    QX rS K PO X (.Call (.Name "tuple" p0) [e] [] pos) (tTupRg t) (pTupRg p) :=
  ⟨pe_tupRg hc hg hm h.pe na, fun {B G0 G H pl σ ρ Q post} r hp hq => h.sd r hp fun a b G1 H1 pl1 s1 hp1 => ⟨hp1.1.ok, fun q hn => by
    have s2 := Stp.new (u := .tup (rgV a b)) s1.ok hn
    exact hq _ (.tup _) _ _ pl1 (s1.trans r.ok s2) (show Rs K pl1 _ _ _ from Rs.tup upd_same (Rl.mono s2.g s2.le _ _ (rgV_rl a b)) (by rw [rngV_len]; have := hp1.1; unfold rgCond at this; omega)) hp1.2⟩⟩
/-- for i in reversed(range(..)) -/
def pSrcRR (p : En → (Int → Int → Prop) → Prop) : PX (List PV) := fun ρ post => p ρ fun a b => rgCond a b ∧ post (rngV a (b - a).toNat).reverse
theorem qi_revR {tg e : Expr} {p0 pos : Pos} {t : L2.St → Hp → (Int → Int → Hp → Prop) → Prop} {p : En → (Int → Int → Prop) → Prop} (hg : Gl X "reversed") (hm : X.mg "reversed" = none) (h : QRg K PO X e t p) (hs : starEach [e] X.env = (false, eval e X.env) :: starEach [] X.env := by rfl) :
    QI K PO X tg (.Call (.Name "reversed" p0) [e] [] pos) (iRevR t) (pSrcRR p) := by
  refine ⟨pi_revR hg hm h.pe hs, fun {B G0 G H pl σ ρ R post} r hp hq => h.sd r hp fun a b G1 H1 pl1 s1 hp1 => ?_⟩
  obtain ⟨hc, hp1⟩ := hp1
  unfold rgCond at hc
  refine ⟨by omega, by omega, by omega, by omega, hq _ (rngV a (b - a).toNat).reverse G1 H1 pl1 s1 (iter_plain fun i G2 H2 pl2 o2 l2 => ?_) (by rw [List.length_reverse, rngV_len]; omega) hp1⟩
  refine ⟨fun e => ?_, fun d e => ?_⟩
  · show (b - a).toNat ≤ i
    rw [List.length_reverse, rngV_len] at e
    omega
  · have hi := (List.getElem?_eq_some_iff.mp e).1
    rw [List.length_reverse, rngV_len] at hi
    rw [List.getElem?_reverse (by rw [rngV_len]; exact hi)] at e
    obtain ⟨h1, rfl⟩ := rngV_get e
    refine ⟨hi, fun y H' q => ?_⟩
    obtain ⟨rfl, rfl⟩ := q
    rw [rngV_len]
    have e2 : a + ((((b - a).toNat : Nat) : Int)) - 1 + (i : Nat) * (-1) = a + (((b - a).toNat - 1 - i : Nat) : Int) := by omega
    rw [e2]
    exact ⟨rfl, Rs.int⟩
end

/-! ## an own error class, by what stands in the written part -/
def clsM (s : Stmt) : Stmt := match s with
  | .ClassDef _ _ _ b _ _ _ _ _ _ _ => (b.find? fun m => match m with | .FunctionDef .. => true | _ => false).getD (.Pass ⟨0, 0, 0, 0⟩)
  | s => s
structure ErrAt (K : PySem.W.Frag) (mg : Str → Option Value) (x q : Str) (st : Stmt) (fs : List Str) (C : Addr) : Prop where
  gC : mg x = some (.ref C)
  oex : OexC K C
  xf : XfC K C
  no : ∀ f ∈ fs, PySem.W.findIn K (.ref C) f = some none
  exm : PySem.W.exmOne K (.ref C) (.ref C) = some true
  ini : ∃ (fI : Addr) (fd : FuncData), PySem.W.findIn K (.ref C) "__init__" = some (some (.ref fI)) ∧ PySem.W.typeIn K (.ref fI) = some (.type "function") ∧ Fun K "__init__" q st fI fd
theorem err_mk {K : PySem.W.Frag} {h : Heap} {mg : Str → Option Value} {x q : Str} {st : Stmt} {fs : List Str} {C f1 : Addr} (X : K.In h) (G : h.Ns mainGlobals mg)
    {nm qq : Str} {N : Addr} {bs bm : List Value} {sn : List Str} {sub : List Value} {ab : Bool} {col : Option Bool} {dd : Option Addr} {m0 m1 m2 m3 m5 : Option Value}
    {od1 an1 : Option Addr} {sl1 : Array (Option Value)} {oc1 kV1 dc1 pm1 cd1 ct1 : Value}
    (aC : PySem.W.nsIn K mainGlobals x = some (some (.ref C)))
    (xL : K.lookup C = some (excClassObj nm qq C N bs bm true sn sub ab col dd m0 m1 m2 m3 m5 "ValueError.__new__")) (hbm : PySem.HandSPX.refsVE bm = true)
    (sa : PySem.W.findIn K (.ref C) "__setattr__" = some (some (.builtin "object.__setattr__"))) (ga : PySem.W.findIn K (.ref C) "__getattribute__" = some (some (.builtin "BaseException.__getattribute__"))) (gg : PySem.W.findIn K (.ref C) "__getattr__" = some none) (hC : PySem.W.hasDictIn K C = true) (no : ∀ f ∈ fs, PySem.W.findIn K (.ref C) f = some none)
    (a1 : PySem.W.findIn K (.ref C) "__init__" = some (some (.ref f1))) (t1 : PySem.W.typeIn K (.ref f1) = some (.type "function"))
    (l1 : K.lookup f1 = some ⟨oc1, od1, .func (PySem.W.fnOf "__init__" q (defArgs st) (defBody st) (defScope st) .none kV1 dc1 pm1 an1 cd1 ct1), sl1⟩) (c1 : PySem.W.codeIn K cd1 q = true) (k1 : PySem.W.keepIn K (.ref f1) = true)
    (kC : PySem.W.keepIn K (.ref C) = true) (eC : PySem.W.subIn K (.ref C) (.type "BaseException") = some true) (tC : PySem.W.typeIn K (.ref C) = some (.type "type")) (sC : PySem.W.subIn K (.ref C) (.ref C) = some true) (hd : PySem.W.hasDictIn K C = true) : ∃ C, ErrAt K mg x q st fs C :=
  ⟨C, PySem.W.mg_of X G aC, ⟨⟨nm, qq, N, bs, bm, sn, sub, ab, col, dd, m0, m1, m2, m3, m5, xL, hbm⟩, sa, eC, tC, kC⟩, ⟨ga, gg, eC, hC⟩, no, PySem.W.exm_ref eC hd tC sC, f1, _, a1, t1, fun_mk l1 c1 k1⟩
theorem glob_int {K : PySem.W.Frag} {h : Heap} {mg : Str → Option Value} {x : Str} {i : Int} {t : Tok} (X : K.In h) (G : h.Ns mainGlobals mg) (a : PySem.W.nsIn K mainGlobals x = some (some (.int i t))) : ∃ t, mg x = some (.int i t) := ⟨t, PySem.W.mg_of X G a⟩
theorem glob_str {K : PySem.W.Frag} {h : Heap} {mg : Str → Option Value} {x z : Str} {t : Tok} (X : K.In h) (G : h.Ns mainGlobals mg) (a : PySem.W.nsIn K mainGlobals x = some (some (.str z t))) : ∃ t, mg x = some (.str z t) := ⟨t, PySem.W.mg_of X G a⟩
section
variable {P : Program} {w : World} {K : PySem.W.Frag} {PO : POk} {mg : Str → Option Value} {base : Heap} {X : Cx} {W : WX}
/-- a def that raises nothing where it is called so -/
theorem CalX.toV {k : Nat} {x : Str} {sp : SpE} (c : CalE P w K PO mg base k x sp) : CalV P w K PO mg base k x (fun ds post => sp ds post (fun _ => False)) := by
  obtain ⟨f, fd, ps, F, hm, kp, b⟩ := c.ex
  have key : ∀ vs H Q E, hSp K PO (fun ds post => sp ds post (fun _ => False)) vs H Q E → hSpE K PO sp vs H Q E0 := fun vs H Q E h => by
    obtain ⟨G, pl, ds, post, o, hl, hs, hq⟩ := h
    exact ⟨G, pl, ds, post, fun _ => False, o, hl, hs, hq, fun _ _ _ _ _ h => h.elim⟩
  refine ⟨f, fd, ps, ⟨fun vs H Q E h => F.len vs H Q E0 (key vs H Q E h), fun A outer s H args us vs Q E hr he hb hv hs => ?_⟩, hm, kp, b⟩
  refine codeAny_mono (F.run A outer s H args us vs Q E0 hr he hb hv (key vs H Q E hs)) fun r s' hq => ?_
  cases r with
  | error e =>
    obtain ⟨_, _, _, _, _, _, _, _, _, _, _, _, z⟩ := hq
    exact z.elim
  | ok fl =>
    cases fl with
    | ret u => exact hq
    | next => exact hq
    | brk => exact hq
    | cont => exact hq
/-- a weaker promise -/
theorem CalV.imp {k : Nat} {x : Str} {sp sp' : SpV} (c : CalV P w K PO mg base k x sp) (h : ∀ ds post, sp' ds post → sp ds post) : CalV P w K PO mg base k x sp' := by
  obtain ⟨f, fd, ps, F, hm, kp, b⟩ := c.ex
  exact ⟨f, fd, ps, F.imp fun vs H Q E ⟨G, pl, ds, post, o, hl, hs, hq⟩ => ⟨G, pl, ds, post, o, hl, h _ _ hs, hq⟩, hm, kp, b⟩
theorem CalV.mono {j k : Nat} {x : Str} {sp : SpV} (c : CalV P w K PO mg base j x sp) (h : j ≤ k) : CalV P w K PO mg base k x sp := by
  obtain ⟨f, fd, ps, F, hm, kp, b⟩ := c.ex
  exact ⟨f, fd, ps, F.mono h, hm, kp, b⟩
def pNever : PSt := fun _ _ => False
/-- a statement that is never reached -/
theorem qs_never {st : Stmt} : QS K PO W X st tNever pNever := ⟨ps_never, fun {B G0 G H pl σ ρ D P} r e hp => hp.elim⟩
end
/-! ## the pool -/
/-- a draw: the pool alone is changed -/
theorem rel_draw {K : PySem.W.Frag} {PO : POk} {G H H' : Hp} {v : V} {as : List Addr} {w : V} {d : PV} (o : Ok PO G H (some (v, as))) (h : ∀ b, b ∉ as → H' b = H b) (ok : PO.ok v as H') (hd : Rs K (some (v, as)) G d w) : Rel K PO H G G H' (some (v, as)) [some w] [some (.sh d)] := by
  have fr : ∀ a ∈ as, G a = none := (o.pok v as rfl).2
  refine ⟨⟨fun b ob e => ?_, fun v' as' e => ?_⟩, fun _ _ => rfl, fun a ha => ?_, fun b ob e hb => ?_, rfl, ⟨fun _ => [], fun i vl e => ?_, fun _ => List.nodup_nil, (fun _ _ _ h => nomatch h), (fun _ _ h => nomatch h)⟩⟩
  · rw [h b fun z => by rw [fr b z] at e; cases e]
    exact o.sub b ob e
  · cases e
    exact ⟨ok, fr⟩
  · by_cases z : a ∈ as
    · exact (PO.live v as H' ok a z).1
    · rw [h a z]; exact ha
  · rw [h b hb]; exact e
  · match i, e with
    | 0, e => cases e; exact ⟨w, rfl, rfl, hd⟩
    | n + 1, e => cases e
/-- the law, behind its pool's making -/
def spLawV (K : PySem.W.Frag) : Sp := fun vs H Q _ => ∃ (a : Addr) (ns : List Int), vs = [.ref a] ∧ SqL K H a (ns.map V.int) ∧ ns.length ≤ 63 ∧ ∀ H', Q (.bl true) H'
theorem rel_law {K : PySem.W.Frag} {PO : POk} {H : Hp} {v : V} {as : List Addr} (ok : PO.ok v as H) (x : Option V) (n : Nat) : Rel K PO (fun _ => none) (fun _ => none) (fun _ => none) H (some (v, as)) (x :: some v :: List.replicate n none) (none :: some (.sh .pool) :: List.replicate n none) := by
  refine ⟨⟨fun b ob e => (nomatch e), fun v' as' e => ?_⟩, fun _ _ => rfl, fun a ha => absurd rfl ha, fun b ob e hb => (nomatch e), by simp, ⟨fun _ => [], fun i vl e => ?_, fun _ => List.nodup_nil, (fun _ _ _ h => nomatch h), (fun _ _ h => nomatch h)⟩⟩
  · cases e
    exact ⟨ok, fun _ _ => rfl⟩
  · match i, e with
    | 0, e => cases e
    | 1, e =>
      cases e
      refine ⟨v, rfl, rfl, ?_⟩
      unfold Rs
      exact ⟨as, rfl⟩
    | i + 2, e =>
      have e' : (List.replicate n (none : Option Vl))[i]? = some (some vl) := e
      rw [List.getElem?_replicate] at e'
      split at e' <;> cases e'
section
variable {P : Program} {w : World} {K : PySem.W.Frag} {PO : POk} {mg : Str → Option Value} {base : Heap}
theorem law_ok {st : Stmt} {st0 : Stmt} {rest : List Stmt} {f : Addr} {fd : FuncData} {N : List Str} {k n : Nat} {spP : SpV} {shape : List PV → Prop} (F : Fun K "law" "law" st f fd) (S : FnScope N ["script"] (defScope st)) (hb : defBody st = st0 :: rest) (hn : N.length = n + 2)
    (hp : ∀ ns : List Int, ns.length ≤ 63 → spP [.scr ns] fun vl => ∃ ds, vl = .ol ds ∧ shape ds)
    (mk : ∀ (G H : Hp) (a : Addr) (xs : List V) (ds : List PV), shape ds → H a = some (.lst xs) → Rl K none G ds xs → Same G H → G a = none → ∃ as, PO.ok (.ref a) as H)
    (hbody : ∀ (cdv : Value) (A : Around) (outer : List Env) (s : Shared) (H : Hp) (E : XK), Room k (A.deeper (envOfC "law" (defScope st) s.heap.objs.size f cdv)) →
      PS (cxOf CX0 P w K mg base N "law" (defScope st) f cdv A outer s H E).nox st0 (tAsg (tCall (hSp K noPool spP) [] E0 (tCons (tVar 0) tNil)) (gName 1)) ∧
      ∃ t p, QB K PO (fun _ _ _ _ => False) (cxOf CX0 P w K mg base N "law" (defScope st) f cdv A outer s H E).nox rest t p ∧
        p { nx := fun _ => False, rt := fun vl => vl = .sh (.bl true), bk := fun _ => False, ct := fun _ => False } (none :: some (.sh .pool) :: List.replicate n none)) : FnOk P w K mg base CX0 (k + 1) f fd ["script"] (spLawV K) := by
  refine F.ok S (fun vs H Q E h => ?_) (fun cdv A outer s H vs Q E hr h => ?_)
  · obtain ⟨a, ns, rfl, _⟩ := h; rfl
  · obtain ⟨a, ns, rfl, hs, hl, hq⟩ := h
    obtain ⟨h1, t, p, q, hpp⟩ := hbody cdv A outer s H E hr
    rw [hb]
    refine ⟨_, pss_cons h1 q.pe, ?_⟩
    refine ⟨.ref a, rfl, ?_⟩
    show hSp K noPool spP ([.ref a] ++ []) H _ E0
    refine ⟨H, none, [.scr ns], _, ⟨Same.refl _, fun _ _ e => (nomatch e)⟩, Rl.cons (Rs.scr hs (by omega)) Rl.nil, hp ns hl, fun vl v G' H' hpost sg r => ?_⟩
    obtain ⟨ds, rfl, hsh⟩ := hpost
    obtain ⟨v', A', e1, ⟨b, xs, rfl, rfl, k1, k2, k3⟩, _, n1⟩ := r.var (i := 0) rfl
    cases e1
    obtain ⟨as, ok⟩ := mk G' H' b xs ds hsh k1 k2 r.ok.sub (n1 b (by simp)).1
    have est : (L2.start N [.ref a]).set 1 (some (.ref b)) = some (.ref a) :: some (.ref b) :: List.replicate n none := by
      unfold L2.start
      rw [hn]
      show (some (V.ref a) :: List.replicate (n + 2 - 1) none).set 1 _ = _
      rw [show n + 2 - 1 = n + 1 from rfl, List.replicate_succ]
      rfl
    show t _ ((L2.start N [.ref a]).set 1 (some (.ref b))) H'
    rw [est]
    refine q.sd (P := { nx := fun _ => False, rt := fun vl => vl = .sh (.bl true), bk := fun _ => False, ct := fun _ => False }) (rel_law ok (some (.ref a)) n) ⟨fun _ _ _ h => h.elim, fun _ _ _ h => h.elim, fun _ _ _ h => h.elim, fun {G2 H2 pl2 v2 vl2} _ _ r2 e2 => ?_, fun _ _ _ _ _ h => h.elim⟩ hpp
    subst e2
    obtain ⟨v3, A3, e3, e4, _⟩ := r2.var (i := 0) rfl
    cases e3
    rw [rs_bl e4.2]
    exact hq H2
end

/-! ## the walk: one lemma a construct -/
def asL (d : PV) (post : List PV → Prop) : Prop := ∃ ds, d = .lst ds ∧ post ds
def asO (d : Vl) (post : List PV → Prop) : Prop := ∃ ds, d = .ol ds ∧ post ds
def asT (d : PV) (post : List PV → Prop) : Prop := ∃ ds, d = .tup ds ∧ post ds
def asB (d : PV) (post : Bool → Prop) : Prop := ∃ k, d = .bl k ∧ post k
def asI (d : PV) (post : Int → Prop) : Prop := ∃ k, d = .int k ∧ post k
def asS (d : PV) (post : List Nat → Prop) : Prop := ∃ k, d = .str k ∧ post k
def asK (d : PV) (post : Bool → Prop) : Prop := ∃ k, tru d = some k ∧ post k
def asH (d : Vl) (post : PV → Prop) : Prop := ∃ x, d = .sh x ∧ post x
def asC (l : List PV) (post : PV → List PV → Prop) : Prop := ∃ d r, l = d :: r ∧ post d r
def asN (l : List PV) (post : Prop) : Prop := l = [] ∧ post
section
variable {ds : List PV} {l : List Nat} {k : Bool} {i : Int} {d : PV}
theorem u_asL {post : List PV → Prop} (h : post ds) : asL (.lst ds) post := ⟨ds, rfl, h⟩
theorem u_asO {post : List PV → Prop} (h : post ds) : asO (.ol ds) post := ⟨ds, rfl, h⟩
theorem u_asT {post : List PV → Prop} (h : post ds) : asT (.tup ds) post := ⟨ds, rfl, h⟩
theorem u_asB {post : Bool → Prop} (h : post k) : asB (.bl k) post := ⟨k, rfl, h⟩
theorem u_asI {post : Int → Prop} (h : post i) : asI (.int i) post := ⟨i, rfl, h⟩
theorem u_asS {post : List Nat → Prop} (h : post l) : asS (.str l) post := ⟨l, rfl, h⟩
theorem u_asH {post : PV → Prop} (h : post d) : asH (.sh d) post := ⟨d, rfl, h⟩
theorem u_asC {post : PV → List PV → Prop} (h : post d ds) : asC (d :: ds) post := ⟨d, ds, rfl, h⟩
theorem u_asN {post : Prop} (h : post) : asN [] post := ⟨rfl, h⟩
theorem u_kI {post : Bool → Prop} (h : post (!decide (i = 0))) : asK (.int i) post := ⟨_, rfl, h⟩
theorem u_kS {post : Bool → Prop} (h : post (!l.isEmpty)) : asK (.str l) post := ⟨_, rfl, h⟩
theorem u_kT {post : Bool → Prop} (h : post (!ds.isEmpty)) : asK (.tup ds) post := ⟨_, rfl, h⟩
theorem u_kB {post : Bool → Prop} (h : post k) : asK (.bl k) post := ⟨_, rfl, h⟩
theorem u_kN {post : Bool → Prop} (h : post false) : asK .non post := ⟨_, rfl, h⟩
end
section
variable {α β γ : Type} {ρ : En} {P : PEnds} {i : Nat}
/-! ### expressions -/
theorem u_var {d : PV} {post : PV → Prop} (h1 : ρ[i]? = some (some (.sh d))) (h : post d) : pVar i ρ post := ⟨d, h1, h⟩
theorem u_varO {ds : List PV} {post : List PV → Prop} (h1 : ρ[i]? = some (some (.ol ds))) (h : post ds) : pVarL i ρ post := ⟨_, ds, h1, .ol ds, h⟩
theorem u_varS {ds : List PV} {post : List PV → Prop} (h1 : ρ[i]? = some (some (.sh (.lst ds)))) (h : post ds) : pVarL i ρ post := ⟨_, ds, h1, .sh ds, h⟩
theorem u_varLL {ds : List (List PV)} {post : List (List PV) → Prop} (h1 : ρ[i]? = some (some (.oo ds))) (h : post ds) : pVarLL i ρ post := ⟨ds, h1, h⟩
theorem u_mov {vl : Vl} {post : Vl → En → Prop} (h1 : ρ[i]? = some (some vl)) (h : post vl (ρ.set i none)) : pMov i ρ post := ⟨vl, h1, h⟩
theorem u_c {d : PV} {post : PV → Prop} (h : post d) : pC d ρ post := h
theorem u_of {p : PX PV} {post : List PV → Prop} (h : p ρ fun d => asL d post) : pOf p ρ post := h
theorem u_ofO {p : PX Vl} {post : List PV → Prop} (h : p ρ fun d => asO d post) : pOfO p ρ post := h
theorem u_ofT {p : PX PV} {post : List PV → Prop} (h : p ρ fun d => asT d post) : pOfT p ρ post := h
theorem u_fz {p : PX Vl} {post : PV → Prop} (h : p ρ fun vl => post vl.frz) : pFz p ρ post := h
theorem u_sh {p : PX PV} {post : Vl → En → Prop} (h : p ρ fun d => post (.sh d) ρ) : pSh p ρ post := h
theorem u_nw {p : PX Vl} {post : Vl → En → Prop} (h : p ρ fun d => post d ρ) : pNw p ρ post := h
theorem u_so {p : PX PV} {post : Vl → Prop} (h : p ρ fun d => post (.sh d)) : pSO p ρ post := h
theorem u_op {F : α → β → (γ → Prop) → Prop} {pa : PX α} {pb : PX β} {post : γ → Prop} (h : pa ρ fun x => pb ρ fun y => F x y post) : pOp F pa pb ρ post := h
theorem u_un {F : α → (γ → Prop) → Prop} {p : PX α} {post : γ → Prop} (h : p ρ fun d => F d post) : pUn F p ρ post := h
theorem u_b {p : PX PV} {post : Bool → Prop} (h : p ρ fun d => asB d post) : pB p ρ post := h
theorem u_and {p q : PX Bool} {post : Bool → Prop} (h : p ρ fun c => if c = true then q ρ post else post false) : pAnd p q ρ post := h
theorem u_or {p q : PX Bool} {post : Bool → Prop} (h : p ρ fun c => if c = true then post true else q ρ post) : pOr p q ρ post := h
theorem u_not {p : PX Bool} {post : Bool → Prop} (h : p ρ fun c => post (!c)) : pNot p ρ post := h
theorem u_andV {p q : PX PV} {post : PV → Prop} (h : p ρ fun d => asB d fun c => if c = true then q ρ post else post (.bl false)) : pAndV p q ρ post := h
theorem u_orV {p q : PX PV} {post : PV → Prop} (h : p ρ fun d => asB d fun c => if c = true then post (.bl true) else q ρ post) : pOrV p q ρ post := h
theorem u_notV {p : PX PV} {post : PV → Prop} (h : p ρ fun d => asB d fun c => post (.bl (!c))) : pNotV p ρ post := h
theorem u_if {c : PX Bool} {p q : PX α} {post : α → Prop} (h : c ρ fun b => if b = true then p ρ post else q ρ post) : pIf c p q ρ post := h
theorem u_nil {post : List PV → Prop} (h : post []) : pNil ρ post := h
theorem u_cons {p : PX PV} {q : PX (List PV)} {post : List PV → Prop} (h : p ρ fun d => q ρ fun ds => post (d :: ds)) : pCons p q ρ post := h
def szQ (n : Nat) (Q : Prop) : Prop := n ≤ 16777216 ∧ Q
theorem u_sz {n : Nat} {Q : Prop} (h : n ≤ 16777216) (q : Q) : szQ n Q := ⟨h, q⟩
theorem u_tup {p : PX (List PV)} {post : PV → Prop} (h : p ρ fun ds => szQ ds.length (post (.tup ds))) : pTup p ρ post := h
theorem u_lst {p : PX (List PV)} {post : Vl → Prop} (h : p ρ fun ds => szQ ds.length (post (.ol ds))) : pLst p ρ post := h
theorem u_call {sp : SpV} {p : PX (List PV)} {post : Vl → Prop} (h : p ρ fun ds => sp ds post) : pCall sp p ρ post := h
theorem u_no {post : Option Int → Prop} (h : post none) : pNo ρ post := h
theorem u_some {p : PX PV} {post : Option Int → Prop} (h : p ρ fun d => asI d fun i => post (some i)) : pSome p ρ post := h
theorem u_sl {F : α → Option Int → Option Int → (γ → Prop) → Prop} {p : PX α} {pl ph : PX (Option Int)} {post : γ → Prop} (h : p ρ fun d => pl ρ fun lo => ph ρ fun hi => F d lo hi post) : pSl F p pl ph ρ post := h
theorem u_m0 {F : List Nat → (γ → Prop) → Prop} {p : PX PV} {post : γ → Prop} (h : p ρ fun d => asS d fun l => F l post) : pM0 F p ρ post := h
theorem u_m1 {F : List Nat → β → (γ → Prop) → Prop} {p : PX PV} {q : PX β} {post : γ → Prop} (h : p ρ fun d => asS d fun l => q ρ fun e => F l e post) : pM1 F p q ρ post := h
theorem u_tru {p : PX PV} {post : Bool → Prop} (h : p ρ fun d => asK d post) : pTru p ρ post := h
theorem u_truL {p : PX (List PV)} {post : Bool → Prop} (h : p ρ fun ds => post (!ds.isEmpty)) : pTruL p ρ post := h
/-! ### operators -/
variable {x y : Int} {a b l : List Nat} {post : PV → Prop} {ds es : List PV} {d : PV}
theorem u_f0 {g : Int → Int → PV} (h : post (g x y)) : f0 g (.int x) (.int y) post := ⟨x, y, rfl, rfl, h⟩
theorem u_fI {C : Int → Int → Prop} {g : Int → Int → PV} (hc : C x y) (h : post (g x y)) : fI C g (.int x) (.int y) post := ⟨x, y, rfl, rfl, hc, h⟩
theorem u_fU {g : Int → Int} (h : post (.int (g x))) : fU g (.int x) post := ⟨x, rfl, h⟩
theorem u_fSS {g : List Nat → List Nat → PV} (h : post (g a b)) : fSS g (.str a) (.str b) post := ⟨a, b, rfl, rfl, h⟩
theorem u_inC {n : Bool} {c : Nat} (h : post (.bl (if n then !decide (c ∈ l) else decide (c ∈ l)))) : fInC n (.str [c]) (.str l) post := ⟨c, l, rfl, rfl, h⟩
theorem u_addS (hz : a.length + b.length ≤ 16777216) (h : post (.str (a ++ b))) : fAddS (.str a) (.str b) post := ⟨a, b, rfl, rfl, hz, h⟩
theorem u_mulS (h1 : -100000000 ≤ x) (h2 : x ≤ 100000000) (hz : l.length * x.toNat ≤ 16777216) (h : post (.str (rep x l))) : fMulS (.str l) (.int x) post := ⟨l, x, rfl, rfl, h1, h2, hz, h⟩
theorem u_ixS {c : Nat} (h1 : atI l x = some c) (h : post (.str [c])) : fIxS (.str l) (.int x) post := ⟨l, x, c, rfl, rfl, h1, h⟩
theorem u_slS {lo hi : Option Int} (h : post (.str (cutL l lo hi))) : fSlS (.str l) lo hi post := ⟨l, rfl, h⟩
theorem u_isN1 {n : Bool} (h : post (.bl (!n))) : fIsN' n .non .non post := ⟨rfl, (fun z => nomatch z), .inl ⟨rfl, h⟩⟩
theorem u_isN0 {n : Bool} (h1 : d ≠ .non) (h2 : d ≠ .pool) (h : post (.bl n)) : fIsN' n d .non post := ⟨rfl, h2, .inr ⟨h1, h⟩⟩
theorem u_ix (h1 : atI ds x = some d) (h : post d) : fIx ds (.int x) post := ⟨x, d, rfl, h1, h⟩
theorem u_ixT (h1 : atI ds x = some d) (h : post d) : fIxT (.tup ds) (.int x) post := ⟨ds, x, d, rfl, rfl, h1, h⟩
theorem u_ixAT (h1 : atI ds x = some d) (h : post d) : fIxA (.tup ds) (.int x) post := .inl ⟨ds, x, d, .inl rfl, rfl, h1, h⟩
theorem u_ixAL (h1 : atI ds x = some d) (h : post d) : fIxA (.lst ds) (.int x) post := .inl ⟨ds, x, d, .inr rfl, rfl, h1, h⟩
theorem u_ixAS {c : Nat} (h1 : atI l x = some c) (h : post (.str [c])) : fIxA (.str l) (.int x) post := .inr ⟨l, x, c, rfl, rfl, h1, h⟩
theorem u_ixLL {dss : List (List PV)} {post : List PV → Prop} (h1 : atI dss x = some ds) (h : post ds) : fIxLL dss (.int x) post := ⟨x, ds, rfl, h1, h⟩
theorem u_slL {lo hi : Option Int} {post : Vl → Prop} (h : post (.ol (cutL ds lo hi))) : fSlL ds lo hi post := h
theorem u_slT {lo hi : Option Int} (h : post (.tup (cutL ds lo hi))) : fSlT (.tup ds) lo hi post := ⟨ds, rfl, h⟩
theorem u_cat {post : Vl → Prop} (hz : ds.length + es.length ≤ 16777216) (h : post (.ol (ds ++ es))) : fCat ds es post := ⟨hz, h⟩
theorem u_rep {post : Vl → Prop} (h1 : -100000000 ≤ x) (h2 : x ≤ 100000000) (hz : ds.length * x.toNat ≤ 16777216) (h : post (.ol (rep x ds))) : fRep ds (.int x) post := ⟨x, rfl, h1, h2, hz, h⟩
theorem u_catT (hz : ds.length + es.length ≤ 16777216) (h : post (.tup (ds ++ es))) : fCatT (.tup ds) (.tup es) post := ⟨ds, es, rfl, rfl, hz, h⟩
theorem u_lenS (h : post (.int l.length)) : fLenS (.str l) post := ⟨l, rfl, h⟩
theorem u_len (h : post (.int ds.length)) : fLen ds post := h
theorem u_int (h : post (.int x)) : fInt (.int x) post := ⟨x, rfl, h⟩
theorem u_intB {k : Bool} (h : post (.int (if k then 1 else 0))) : fIntB (.bl k) post := ⟨k, rfl, h⟩
theorem u_abs (h : post (.int x.natAbs)) : fAbs (.int x) post := ⟨x, rfl, h⟩
theorem u_min (h : post (.int (min x y))) : fMin2 [.int x, .int y] post := ⟨x, y, rfl, h⟩
theorem u_max (h : post (.int (max x y))) : fMax2 [.int x, .int y] post := ⟨x, y, rfl, h⟩
theorem u_sum {ns : List Int} (h : post (.int ns.sum)) : fSum (ns.map .int) post := ⟨ns, rfl, h⟩
theorem u_sortI {ns : List Int} {post : Vl → Prop} (h : ∀ ms : List Int, ms.Perm ns → ms.Pairwise (· ≤ ·) → post (.ol (ms.map .int))) : fSortI (ns.map .int) post := ⟨ns, rfl, h⟩
theorem u_sortS {ls : List (List Nat)} {post : Vl → Prop} (h0 : ls.length < 64) (h : ∀ ms : List (List Nat), ms.Perm ls → sortedS (ms.map S) = true → post (.ol (ms.map .str))) : fSortS (ls.map .str) post := ⟨ls, rfl, h0, h⟩
theorem u_tupL (h : post (.tup ds)) : fTupL ds post := h
theorem u_listQ {post : Vl → Prop} (h : post (.ol ds)) : fListQ ds post := h
theorem u_listS {post : Vl → Prop} (h : post (.ol (l.map fun c => .str [c]))) : fListS (.str l) post := ⟨l, rfl, h⟩
theorem u_join0 {ls : List (List Nat)} (hz : ls.flatten.length ≤ 16777216) (h : post (.str ls.flatten)) : fJoin0 [] (ls.map .str) post := ⟨rfl, ls, rfl, hz, h⟩
theorem u_find1 {c : Nat} (hc : c ∈ l) (h : post (.int (l.idxOf c : Nat))) : fFind1 l (.str [c]) post := ⟨c, rfl, hc, h⟩
theorem u_upper (h1 : l.length ≤ 100000) (h2 : ∀ c ∈ l, c ∈ alphaU) (h : ∀ l' : List Nat, l'.length = l.length → post (.str l')) : fUpper l post := ⟨h1, h2, h⟩
theorem u_inS {n : Bool} {bs : List (List Nat)} (h : post (.bl (if n then !decide (a ∈ bs) else decide (a ∈ bs)))) : fIn n (.str a) (bs.map .str) post := .inl ⟨a, bs, rfl, rfl, h⟩
theorem u_inI {n : Bool} {bs : List Int} (h : post (.bl (if n then !decide (x ∈ bs) else decide (x ∈ bs)))) : fIn n (.int x) (bs.map .int) post := .inr ⟨x, bs, rfl, rfl, h⟩
theorem u_isi {n : String} {k : Bool} (n1 : ∀ m, d ≠ .ty m) (n2 : ∀ k, d ≠ .dK k) (n3 : ∀ k, d ≠ .dT k) (n4 : d ≠ .pool) (n5 : ∀ a, d ≠ .obj a) (n6 : ∀ ns, d ≠ .scr ns) (hk : kitB d.cls n = some k) (h : post (.bl k)) : fIsi [d, .ty n] post := ⟨d, n, k, rfl, n1, n2, n3, n4, n5, n6, hk, h⟩
theorem u_isiS {n : String} {k : Bool} (hk : kitB "str" n = some k) (h : post (.bl k)) : fIsi [.str l, .ty n] post := u_isi (fun _ z => nomatch z) (fun _ z => nomatch z) (fun _ z => nomatch z) (fun z => nomatch z) (fun _ z => nomatch z) (fun _ z => nomatch z) hk h
theorem u_isiI {n : String} {k : Bool} (hk : kitB "int" n = some k) (h : post (.bl k)) : fIsi [.int x, .ty n] post := u_isi (fun _ z => nomatch z) (fun _ z => nomatch z) (fun _ z => nomatch z) (fun z => nomatch z) (fun _ z => nomatch z) (fun _ z => nomatch z) hk h
theorem u_isiB {n : String} {c k : Bool} (hk : kitB "bool" n = some k) (h : post (.bl k)) : fIsi [.bl c, .ty n] post := u_isi (fun _ z => nomatch z) (fun _ z => nomatch z) (fun _ z => nomatch z) (fun z => nomatch z) (fun _ z => nomatch z) (fun _ z => nomatch z) hk h
theorem u_isiT {n : String} {k : Bool} (hk : kitB "tuple" n = some k) (h : post (.bl k)) : fIsi [.tup ds, .ty n] post := u_isi (fun _ z => nomatch z) (fun _ z => nomatch z) (fun _ z => nomatch z) (fun z => nomatch z) (fun _ z => nomatch z) (fun _ z => nomatch z) hk h
theorem u_isiL {n : String} {k : Bool} (hk : kitB "list" n = some k) (h : post (.bl k)) : fIsi [.lst ds, .ty n] post := u_isi (fun _ z => nomatch z) (fun _ z => nomatch z) (fun _ z => nomatch z) (fun z => nomatch z) (fun _ z => nomatch z) (fun _ z => nomatch z) hk h
theorem u_isiN {n : String} {k : Bool} (hk : kitB "NoneType" n = some k) (h : post (.bl k)) : fIsi [.non, .ty n] post := u_isi (fun _ z => nomatch z) (fun _ z => nomatch z) (fun _ z => nomatch z) (fun z => nomatch z) (fun _ z => nomatch z) (fun _ z => nomatch z) hk h
/-! ### statements -/
theorem u_next (h : P.nx ρ) : pNext P ρ := h
theorem u_seq {p q : PSt} (h : p { P with nx := q P } ρ) : pSeq p q P ρ := h
theorem u_cut {p q : PSt} (M : En → Prop) (h : p { P with nx := M } ρ) (k : ∀ ρ', M ρ' → q P ρ') : pCut p q P ρ := ⟨M, h, k⟩
theorem u_set {p : En → (Vl → En → Prop) → Prop} (h : p ρ fun vl ρ' => P.nx (ρ'.set i (some vl))) : pSet i p P ρ := h
theorem u_frz {vl : Vl} {p : PSt} (h1 : ρ[i]? = some (some vl)) (h : p P (ρ.set i (some (.sh vl.frz)))) : pFrz i p P ρ := ⟨vl, h1, h⟩
theorem u_fgt {p : PSt} (h : p P (ρ.set i none)) : pFgt i p P ρ := h
theorem u_gN {post : En → Prop} (h : post (ρ.set i (some (.sh d)))) : gpN i d ρ post := h
theorem u_gNil {post : En → Prop} (h : post ρ) : gpNil [] ρ post := ⟨rfl, h⟩
theorem u_gCons {q : PV → En → (En → Prop) → Prop} {qs : List PV → En → (En → Prop) → Prop} {post : En → Prop} (h : q d ρ fun ρ' => qs ds ρ' post) : gpCons q qs (d :: ds) ρ post := ⟨d, ds, rfl, h⟩
theorem u_gTup {n : Nat} {qs : List PV → En → (En → Prop) → Prop} {post : En → Prop} (hl : ds.length = n) (h : qs ds ρ post) : gpTup n qs (.tup ds) ρ post := ⟨ds, rfl, hl, h⟩
theorem u_asg {p : PX PV} {q : PV → En → (En → Prop) → Prop} (h : p ρ fun d => q d ρ P.nx) : pAsg p q P ρ := h
theorem u_asgM {p : En → (Vl → En → Prop) → Prop} {q : PV → En → (En → Prop) → Prop} (h : p ρ fun vl ρ' => asH vl fun d => q d ρ' P.nx) : pAsgM p q P ρ := h
theorem u_drop {p : PX PV} (h : p ρ fun _ => P.nx ρ) : pDrop p P ρ := h
theorem u_dropM {p : En → (Vl → En → Prop) → Prop} (h : p ρ fun _ ρ' => P.nx ρ') : pDropM p P ρ := h
theorem u_ret {p : En → (Vl → En → Prop) → Prop} (h : p ρ fun vl _ => P.rt vl) : pRet p P ρ := h
theorem u_retN (h : P.rt (.sh .non)) : pRetN P ρ := h
theorem u_brk (h : P.bk ρ) : pBreak P ρ := h
theorem u_cont (h : P.ct ρ) : pCont P ρ := h
theorem u_ifS {c : PX Bool} {p q : PSt} (h : c ρ fun b => if b = true then p P ρ else q P ρ) : pIfS c p q P ρ := h
def whQ (c : PX Bool) (p : PSt) (P : PEnds) (ρ : En) : Prop := pWhile c p P ρ
theorem u_while {c : PX Bool} {p : PSt} (W : Nat → En → Prop) (m : Nat) (h : W m ρ) (hs : ∀ m ρ, W m ρ → c ρ fun b => if b = true then p { P with nx := fun ρ' => ∃ m', m' < m ∧ W m' ρ', ct := fun ρ' => ∃ m', m' < m ∧ W m' ρ', bk := P.nx } ρ else P.nx ρ) : pWhile c p P ρ := ⟨W, ⟨m, h⟩, hs⟩
def forQ (q : PV → En → (En → Prop) → Prop) (p : PSt) (P : PEnds) (ρ : En) (ds : List PV) : Prop := ∃ I : Nat → En → Prop, I 0 ρ ∧ (∀ i d ρ1, ds[i]? = some d → I i ρ1 → q d ρ1 fun ρ2 => p { P with nx := I (i + 1), ct := I (i + 1), bk := P.nx } ρ2) ∧ ∀ ρ1, I ds.length ρ1 → P.nx ρ1
theorem u_for {src : PX (List PV)} {q : PV → En → (En → Prop) → Prop} {p : PSt} (h : src ρ fun ds => forQ q p P ρ ds) : pFor src q p P ρ := h
theorem u_forI {q : PV → En → (En → Prop) → Prop} {p : PSt} (I : Nat → En → Prop) (h0 : I 0 ρ) (hs : ∀ i d ρ1, ds[i]? = some d → I i ρ1 → q d ρ1 fun ρ2 => p { P with nx := I (i + 1), ct := I (i + 1), bk := P.nx } ρ2) (hd : ∀ ρ1, I ds.length ρ1 → P.nx ρ1) : forQ q p P ρ ds := ⟨I, h0, hs, hd⟩
/-- the items are f x for x of xs -/
theorem u_forT {α : Type} {xs : List α} {f : α → PV} {q : PV → En → (En → Prop) → Prop} {p : PSt} (I : Nat → En → Prop) (h0 : I 0 ρ) (hs : ∀ i x ρ1, xs[i]? = some x → I i ρ1 → q (f x) ρ1 fun ρ2 => p { P with nx := I (i + 1), ct := I (i + 1), bk := P.nx } ρ2) (hd : ∀ ρ1, I xs.length ρ1 → P.nx ρ1) : forQ q p P ρ (xs.map f) :=
  ⟨I, h0, fun i d ρ1 e hI => by
    rw [List.getElem?_map] at e
    obtain ⟨x, e1, rfl⟩ := Option.map_eq_some_iff.mp e
    exact hs i x ρ1 e1 hI, fun ρ1 hI => hd ρ1 (by rw [List.length_map] at hI; exact hI)⟩
theorem u_forR {lo : Int} {n : Nat} {q : PV → En → (En → Prop) → Prop} {p : PSt} (I : Nat → En → Prop) (h0 : I 0 ρ) (hs : ∀ i ρ1, i < n → I i ρ1 → q (.int (lo + (i : Nat))) ρ1 fun ρ2 => p { P with nx := I (i + 1), ct := I (i + 1), bk := P.nx } ρ2) (hd : ∀ ρ1, I n ρ1 → P.nx ρ1) : forQ q p P ρ (rngV lo n) :=
  ⟨I, h0, fun i d ρ1 e hI => by
    obtain ⟨h1, rfl⟩ := rngV_get e
    exact hs i ρ1 h1 hI, fun ρ1 hI => hd ρ1 (by rw [rngV_len] at hI; exact hI)⟩
theorem u_forR0 {n : Nat} {q : PV → En → (En → Prop) → Prop} {p : PSt} (I : Nat → En → Prop) (h0 : I 0 ρ) (hs : ∀ i ρ1, i < n → I i ρ1 → q (.int (i : Nat)) ρ1 fun ρ2 => p { P with nx := I (i + 1), ct := I (i + 1), bk := P.nx } ρ2) (hd : ∀ ρ1, I n ρ1 → P.nx ρ1) : forQ q p P ρ (rngV 0 n) :=
  u_forR I h0 (fun i ρ1 h hI => by rw [Int.zero_add]; exact hs i ρ1 h hI) hd
theorem u_forE {α : Type} {xs : List α} {f : α → PV} {q : PV → En → (En → Prop) → Prop} {p : PSt} (I : Nat → En → Prop) (h0 : I 0 ρ) (hs : ∀ i x ρ1, xs[i]? = some x → I i ρ1 → q (.tup [.int (i : Nat), f x]) ρ1 fun ρ2 => p { P with nx := I (i + 1), ct := I (i + 1), bk := P.nx } ρ2) (hd : ∀ ρ1, I xs.length ρ1 → P.nx ρ1) : forQ q p P ρ (enumV (xs.map f)) :=
  ⟨I, h0, fun i d ρ1 e hI => by
    obtain ⟨z, e1, rfl⟩ := enumV_get e
    rw [List.getElem?_map] at e1
    obtain ⟨x, e2, rfl⟩ := Option.map_eq_some_iff.mp e1
    exact hs i x ρ1 e2 hI, fun ρ1 hI => hd ρ1 (by rw [enumV_len, List.length_map] at hI; exact hI)⟩
theorem u_forZ {α β : Type} {xs : List α} {ys : List β} {f : α → PV} {g : β → PV} {q : PV → En → (En → Prop) → Prop} {p : PSt} (I : Nat → En → Prop) (h0 : I 0 ρ) (hs : ∀ i x y ρ1, xs[i]? = some x → ys[i]? = some y → I i ρ1 → q (.tup [f x, g y]) ρ1 fun ρ2 => p { P with nx := I (i + 1), ct := I (i + 1), bk := P.nx } ρ2)
    (hd : ∀ ρ1, I (min xs.length ys.length) ρ1 → P.nx ρ1) : forQ q p P ρ (zipV (xs.map f) (ys.map g)) :=
  ⟨I, h0, fun i d ρ1 e hI => by
    obtain ⟨a, b, e1, e2, rfl⟩ := zipV_get e
    rw [List.getElem?_map] at e1 e2
    obtain ⟨x, e3, rfl⟩ := Option.map_eq_some_iff.mp e1
    obtain ⟨y, e4, rfl⟩ := Option.map_eq_some_iff.mp e2
    exact hs i x y ρ1 e3 e4 hI, fun ρ1 hI => hd ρ1 (by rw [zipV_len, List.length_map, List.length_map] at hI; exact hI)⟩
/-! ### what is walked -/
def leQ (n : Nat) (Q : Prop) : Prop := n ≤ 16777216 → Q
theorem u_le {n : Nat} {Q : Prop} (h : n ≤ 16777216 → Q) : leQ n Q := h
variable {postL : List PV → Prop}
theorem u_srcL {p : PX PV} (h : p ρ fun d => asL d fun ds => leQ ds.length (postL ds)) : pSrcL p ρ postL := h
theorem u_srcR {p : PX (List PV)} (h : p ρ fun ds => leQ ds.length (postL ds)) : pSrcR p ρ postL := h
theorem u_srcT {p : PX PV} (h : p ρ fun d => asT d fun ds => leQ ds.length (postL ds)) : pSrcT p ρ postL := h
theorem u_srcS {p : PX PV} (h : p ρ fun d => asS d fun l => leQ l.length (postL (chrs l))) : pSrcS p ρ postL := h
def asSc (d : PV) (post : List Int → Prop) : Prop := ∃ ns, d = .scr ns ∧ post ns
theorem u_asSc {ns : List Int} {post : List Int → Prop} (h : post ns) : asSc (.scr ns) post := ⟨ns, rfl, h⟩
theorem u_srcScr {p : PX PV} (h : p ρ fun d => asSc d fun ns => leQ ns.length (postL (ns.map .int))) : pSrcScr p ρ postL := h
theorem u_srcEScr {p : PX PV} (h : p ρ fun d => asSc d fun ns => leQ ns.length (postL (enumV (ns.map .int)))) : pSrcEScr p ρ postL := h
theorem u_ixScr {ns : List Int} {z : Int} (h1 : atI ns x = some z) (h : post (.int z)) : fIxScr (.scr ns) (.int x) post := ⟨ns, x, z, rfl, rfl, h1, h⟩
theorem u_slScr {ns : List Int} {lo hi : Option Int} {post : Vl → Prop} (h : post (.ol ((cutL ns lo hi).map .int))) : fSlScr (.scr ns) lo hi post := ⟨ns, rfl, h⟩
theorem u_lenScr {ns : List Int} (h : post (.int (ns.length : Nat))) : fLenScr (.scr ns) post := ⟨ns, rfl, h⟩
def r1Q (ds : List PV) (post : List PV → Prop) : Prop := ∃ j : Int, ds = [.int j] ∧ -1000000000 ≤ j ∧ j ≤ 16777216 ∧ post (rngV 0 j.toNat)
theorem u_srcR1 {p : PX (List PV)} (h : p ρ fun ds => r1Q ds postL) : pSrcR1 p ρ postL := h
theorem u_r1 (h1 : -1000000000 ≤ x) (h2 : x ≤ 16777216) (h : postL (rngV 0 x.toNat)) : r1Q [.int x] postL := ⟨x, rfl, h1, h2, h⟩
def r2Q (ds : List PV) (post : List PV → Prop) : Prop := ∃ i j : Int, ds = [.int i, .int j] ∧ (-1000000000 ≤ i ∧ i ≤ 1000000000 ∧ -1000000000 ≤ j ∧ j ≤ 1000000000 ∧ j - i ≤ 16777216) ∧ post (rngV i (j - i).toNat)
theorem u_srcR2 {p : PX (List PV)} (h : p ρ fun ds => r2Q ds postL) : pSrcR2 p ρ postL := h
theorem u_r2 (h1 : -1000000000 ≤ x ∧ x ≤ 1000000000 ∧ -1000000000 ≤ y ∧ y ≤ 1000000000 ∧ y - x ≤ 16777216) (h : postL (rngV x (y - x).toNat)) : r2Q [.int x, .int y] postL := ⟨x, y, rfl, h1, h⟩
theorem u_srcE {p : PX PV} (h : p ρ fun d => asL d fun ds => leQ ds.length (postL (enumV ds))) : pSrcE p ρ postL := h
theorem u_srcEc {p : PX (List PV)} (h : p ρ fun ds => leQ ds.length (postL (enumV ds))) : pSrcEc p ρ postL := h
theorem u_srcES {p : PX PV} (h : p ρ fun d => asS d fun l => leQ l.length (postL (enumV (chrs l)))) : pSrcES p ρ postL := h
def zipQ (d e : PV) (post : List PV → Prop) : Prop := ∃ ds es, d = .lst ds ∧ e = .lst es ∧ (ds.length ≤ 16777216 → es.length ≤ 16777216 → post (zipV ds es))
theorem u_srcZ {p q : PX PV} (h : p ρ fun d => q ρ fun e => zipQ d e postL) : pSrcZ p q ρ postL := h
theorem u_zip (h : ds.length ≤ 16777216 → es.length ≤ 16777216 → postL (zipV ds es)) : zipQ (.lst ds) (.lst es) postL := ⟨ds, es, rfl, rfl, h⟩
theorem u_srcV {p : PX PV} (h : p ρ fun d => asL d fun ds => leQ ds.length (postL ds.reverse)) : pSrcV p ρ postL := h
/-! ### comprehensions -/
def lcQ (q : PV → En → (En → Prop) → Prop) (pt : PX Bool) (pe : PX PV) (vs : List Nat) (ρ : En) (post : Vl → Prop) (ds : List PV) : Prop := ∃ I : Nat → List PV → Prop, I 0 [] ∧
  (∀ i d ys, ds[i]? = some d → ys.length ≤ i → I i ys → q d (wipeN ρ vs) fun ρ2 => pt ρ2 fun b => if b = true then pe ρ2 fun y => I (i + 1) (ys ++ [y]) else I (i + 1) ys) ∧ ∀ ys, ys.length ≤ ds.length → I ds.length ys → post (.ol ys)
theorem u_lc {src : PX (List PV)} {q : PV → En → (En → Prop) → Prop} {pt : PX Bool} {pe : PX PV} {vs : List Nat} {post : Vl → Prop} (h : src ρ fun ds => lcQ q pt pe vs ρ post ds) : pLc src q pt pe vs ρ post := h
theorem u_yes {post : Bool → Prop} (h : post true) : pYes ρ post := h
/-- each item by itself -/
theorem u_lcMap {xs : List α} {f : α → PV} (g : α → PV) {q : PV → En → (En → Prop) → Prop} {pe : PX PV} {vs : List Nat} {post : Vl → Prop} (h : ∀ (i : Nat) x (R : PV → Prop), xs[i]? = some x → R (g x) → q (f x) (wipeN ρ vs) fun ρ2 => pe ρ2 R) (k : post (.ol (xs.map g))) : lcQ q pYes pe vs ρ post (xs.map f) := by
  refine ⟨fun i ys => ys = (xs.take i).map g, rfl, fun i d ys e _ hI => ?_, fun ys _ hI => ?_⟩
  · rw [List.getElem?_map] at e
    obtain ⟨x, e1, rfl⟩ := Option.map_eq_some_iff.mp e
    refine h i x _ e1 ?_
    show ys ++ [g x] = (xs.take (i + 1)).map g
    rw [hI, List.take_succ, e1]
    simp
  · rw [hI, List.length_map, List.take_length]
    exact k
theorem u_lcFil {xs : List α} {f : α → PV} (b : α → Bool) (g : α → PV) {q : PV → En → (En → Prop) → Prop} {pt : PX Bool} {pe : PX PV} {vs : List Nat} {post : Vl → Prop}
    (h : ∀ (i : Nat) x (R : PV → Prop) (R0 : Prop), xs[i]? = some x → (b x = true → R (g x)) → (b x = false → R0) → q (f x) (wipeN ρ vs) fun ρ2 => pt ρ2 fun c => if c = true then pe ρ2 R else R0) (k : post (.ol ((xs.filter b).map g))) : lcQ q pt pe vs ρ post (xs.map f) := by
  refine ⟨fun i ys => ys = ((xs.take i).filter b).map g, rfl, fun i d ys e _ hI => ?_, fun ys _ hI => ?_⟩
  · rw [List.getElem?_map] at e
    obtain ⟨x, e1, rfl⟩ := Option.map_eq_some_iff.mp e
    refine h i x _ _ e1 (fun hb => ?_) fun hb => ?_
    · show ys ++ [g x] = ((xs.take (i + 1)).filter b).map g
      rw [hI, List.take_succ, e1]
      simp [hb]
    · show ys = ((xs.take (i + 1)).filter b).map g
      rw [hI, List.take_succ, e1]
      simp [hb]
  · rw [hI, List.length_map, List.take_length]
    exact k
/-- the items are not told, what they are is -/
theorem u_lcAny (T : PV → Prop) {q : PV → En → (En → Prop) → Prop} {pe : PX PV} {vs : List Nat} {post : Vl → Prop} (h : ∀ (i : Nat) d (R : PV → Prop), ds[i]? = some d → (∀ y, T y → R y) → q d (wipeN ρ vs) fun ρ2 => pe ρ2 R) (k : ∀ ys : List PV, ys.length = ds.length → (∀ y ∈ ys, T y) → post (.ol ys)) : lcQ q pYes pe vs ρ post ds := by
  refine ⟨fun i ys => ys.length = i ∧ ∀ y ∈ ys, T y, ⟨rfl, fun y hy => nomatch hy⟩, fun i d ys e _ hI => ?_, fun ys _ hI => k ys hI.1 hI.2⟩
  refine h i d _ e fun y hy => ⟨by rw [List.length_append, hI.1]; rfl, fun z hz => ?_⟩
  rcases List.mem_append.mp hz with hz | hz
  · exact hI.2 z hz
  · rw [List.mem_singleton.mp hz]; exact hy
/-! ### changes -/
def appQ (i : Nat) (vl : Vl) (ρ : En) (P : PEnds) : Prop := ∃ d ds, vl = .sh d ∧ ρ[i]? = some (some (.ol ds)) ∧ ds.length < 16777216 ∧ P.nx (ρ.set i (some (.ol (ds ++ [d]))))
theorem u_app {p : En → (Vl → En → Prop) → Prop} (h1 : ρ[i]? = some (some (.ol ds))) (h : p ρ fun vl ρ' => appQ i vl ρ' P) : pApp i p P ρ := ⟨⟨ds, h1⟩, h⟩
theorem u_appQ (h1 : ρ[i]? = some (some (.ol ds))) (h2 : ds.length < 16777216) (h : P.nx (ρ.set i (some (.ol (ds ++ [d]))))) : appQ i (.sh d) ρ P := ⟨d, ds, rfl, h1, h2, h⟩
def appOQ (i : Nat) (vl : Vl) (ρ : En) (P : PEnds) : Prop := ∃ d dss, vl = .ol d ∧ ρ[i]? = some (some (.oo dss)) ∧ dss.length < 16777216 ∧ P.nx (ρ.set i (some (.oo (dss ++ [d]))))
theorem u_appO {dss : List (List PV)} {p : En → (Vl → En → Prop) → Prop} (h1 : ρ[i]? = some (some (.oo dss))) (h : p ρ fun vl ρ' => appOQ i vl ρ' P) : pAppO i p P ρ := ⟨⟨dss, h1⟩, h⟩
theorem u_appOQ {dss : List (List PV)} (h1 : ρ[i]? = some (some (.oo dss))) (h2 : dss.length < 16777216) (h : P.nx (ρ.set i (some (.oo (dss ++ [ds]))))) : appOQ i (.ol ds) ρ P := ⟨ds, dss, rfl, h1, h2, h⟩
def stoQ (i : Nat) (ds : List PV) (d y : PV) (ρ : En) (P : PEnds) : Prop := ∃ k j, y = .int k ∧ ixN ds.length k = some j ∧ P.nx (ρ.set i (some (.ol (ds.set j d))))
def stoA (i : Nat) (pk : PX PV) (d : PV) (ρ : En) (P : PEnds) : Prop := ∃ ds, ρ[i]? = some (some (.ol ds)) ∧ pk ρ fun y => stoQ i ds d y ρ P
theorem u_sto {pk p : PX PV} (h : p ρ fun d => stoA i pk d ρ P) : pSto i pk p P ρ := h
theorem u_stoA {pk : PX PV} (h1 : ρ[i]? = some (some (.ol ds))) (h : pk ρ fun y => stoQ i ds d y ρ P) : stoA i pk d ρ P := ⟨ds, h1, h⟩
theorem u_stoQ {j : Nat} (h1 : ixN ds.length x = some j) (h : P.nx (ρ.set i (some (.ol (ds.set j d))))) : stoQ i ds d (.int x) ρ P := ⟨x, j, rfl, h1, h⟩
theorem u_pop {post : Vl → En → Prop} (h1 : ρ[i]? = some (some (.ol (ds ++ [d])))) (h : post (.sh d) (ρ.set i (some (.ol ds)))) : pPop i ρ post := ⟨ds, d, h1, h⟩
def popAQ (i : Nat) (ds : List PV) (ρ : En) (post : Vl → En → Prop) (y : PV) : Prop := ∃ (k : Nat) (d : PV), y = .int k ∧ ds[k]? = some d ∧ post (.sh d) (ρ.set i (some (.ol (ds.eraseIdx k))))
theorem u_popAt {p : PX PV} {post : Vl → En → Prop} (h1 : ρ[i]? = some (some (.ol ds))) (h : p ρ fun y => popAQ i ds ρ post y) : pPopAt i p ρ post := ⟨ds, h1, h⟩
theorem u_popAQ {k : Nat} {post : Vl → En → Prop} (h1 : ds[k]? = some d) (h : post (.sh d) (ρ.set i (some (.ol (ds.eraseIdx k))))) : popAQ i ds ρ post (.int (k : Nat)) := ⟨k, d, rfl, h1, h⟩
theorem u_aug {g : Int → Int → Int} {p : PX PV} (h1 : ρ[i]? = some (some (.sh (.int x)))) (h : p ρ fun d => asI d fun k => P.nx (ρ.set i (some (.sh (.int (g x k)))))) : pAug i g p P ρ := ⟨x, h1, h⟩
def augQ (i : Nat) (g : Int → Int → Int) (ds : List PV) (p : PX PV) (ρ : En) (P : PEnds) (y : PV) : Prop := ∃ k j m, y = .int k ∧ ixN ds.length k = some j ∧ ds[j]? = some (.int m) ∧ p ρ fun d => asI d fun z => P.nx (ρ.set i (some (.ol (ds.set j (.int (g m z))))))
theorem u_augS {g : Int → Int → Int} {pk p : PX PV} (h1 : ρ[i]? = some (some (.ol ds))) (h : pk ρ fun y => augQ i g ds p ρ P y) : pAugS i g pk p P ρ := ⟨ds, h1, h⟩
theorem u_augQ {g : Int → Int → Int} {p : PX PV} {j : Nat} {m : Int} (h1 : ixN ds.length x = some j) (h2 : ds[j]? = some (.int m)) (h : p ρ fun d => asI d fun z => P.nx (ρ.set i (some (.ol (ds.set j (.int (g m z))))))) : augQ i g ds p ρ P (.int x) := ⟨x, j, m, rfl, h1, h2, h⟩
def appInQ (i : Nat) (dss : List (List PV)) (p : PX PV) (ρ : En) (P : PEnds) (y : PV) : Prop := ∃ k j ds, y = .int k ∧ ixN dss.length k = some j ∧ dss[j]? = some ds ∧ p ρ fun d => ds.length < 16777216 ∧ P.nx (ρ.set i (some (.oo (dss.set j (ds ++ [d])))))
theorem u_appIn {pj p : PX PV} {dss : List (List PV)} (h1 : ρ[i]? = some (some (.oo dss))) (h : pj ρ fun y => appInQ i dss p ρ P y) : pAppIn i pj p P ρ := ⟨dss, h1, h⟩
def ltQ (n : Nat) (Q : Prop) : Prop := n < 16777216 ∧ Q
theorem u_lt {n : Nat} {Q : Prop} (h : n < 16777216) (q : Q) : ltQ n Q := ⟨h, q⟩
theorem u_appInQ {p : PX PV} {dss : List (List PV)} {j : Nat} (h1 : ixN dss.length x = some j) (h2 : dss[j]? = some ds) (h : p ρ fun d => ltQ ds.length (P.nx (ρ.set i (some (.oo (dss.set j (ds ++ [d]))))))) : appInQ i dss p ρ P (.int x) := ⟨x, j, ds, rfl, h1, h2, h⟩
end
/-! ## errors -/
section
variable {ρ : En} {P : PEnds} {i : Nat} {ds : List PV}
def raQ (C : Addr) (fs : List Str) (ds : List PV) (ρ : En) (P : PEnds) : Prop := ds.length = fs.length ∧ fs.length ≤ 1000 ∧ fs.Nodup ∧ P.er ⟨C, fs.zip ds⟩ ρ
theorem u_raise {C : Addr} {fs : List Str} {p : PX (List PV)} (h : p ρ fun ds => raQ C fs ds ρ P) : pRaise C fs p P ρ := h
theorem u_raQ {C : Addr} {fs : List Str} (h1 : ds.length = fs.length) (h2 : fs.length ≤ 1000) (h3 : fs.Nodup) (h : P.er ⟨C, fs.zip ds⟩ ρ) : raQ C fs ds ρ P := ⟨h1, h2, h3, h⟩
theorem u_callE {sp : SpE} {p : PX (List PV)} {post : Vl → En → Prop} {ep : Er → En → Prop} (h : p ρ fun ds => sp ds (fun vl => post vl ρ) (fun e => ep e ρ)) : pCallE sp p ρ post ep := h
theorem u_setE {p : En → (Vl → En → Prop) → (Er → En → Prop) → Prop} (h : p ρ (fun vl ρ' => P.nx (ρ'.set i (some vl))) P.er) : pSetE i p P ρ := h
theorem u_dropE {p : En → (Vl → En → Prop) → (Er → En → Prop) → Prop} (h : p ρ (fun _ ρ' => P.nx ρ') P.er) : pDropE p P ρ := h
theorem u_retE {p : En → (Vl → En → Prop) → (Er → En → Prop) → Prop} (h : p ρ (fun vl _ => P.rt vl) P.er) : pRetE p P ρ := h
theorem u_try {pb : PSt} {c : Value} {K : PySem.W.Frag} {ps : Addr → Value → Option Addr → PSt} (h : pb { P with er := fun e ρ' => ∃ b, PySem.W.exmOne K (.ref e.C) c = some b ∧ (b = true → ∀ a dd, ps a (.ref e.C) (some dd) { P with er := fun _ _ => False } ρ') ∧ (b = false → P.er e ρ') } ρ) : pTry pb c K ps P ρ := h
theorem u_tryAs {pb : PSt} {c : Value} {K : PySem.W.Frag} {ps : Addr → Value → Option Addr → PSt} (h : pb { P with er := fun e ρ' => ∃ b, PySem.W.exmOne K (.ref e.C) c = some b ∧
  (b = true → ∀ a dd, ps a (.ref e.C) (some dd) { P with nx := fun ρ2 => P.nx (ρ2.set i none), bk := fun ρ2 => P.bk (ρ2.set i none), ct := fun ρ2 => P.ct (ρ2.set i none), er := fun _ _ => False } (ρ'.set i (some (.er e a dd)))) ∧ (b = false → P.er e ρ') } ρ) : pTryAs pb c K i ps P ρ := h
theorem u_xf {a C dd : Addr} {f : Str} {e : Er} {v : PV} {post : PV → Prop} (h1 : ρ[i]? = some (some (.er e a dd))) (h2 : e.fs.lookup f = some v) (h : post v) : pXf i a (.ref C) (some dd) C f ρ post := ⟨e, dd, v, h1, rfl, rfl, h2, h⟩
/-! ## dicts and more -/
variable {post : PV → Prop} {d : PV} {l : List Nat} {x y : Int} {α : Type}
def asD (d : PV) (post : List (Key × PV) → Prop) : Prop := ∃ ds, d = .dK ds ∧ post ds
def asDT (d : PV) (post : List (List Key × PV) → Prop) : Prop := ∃ ds, d = .dT ds ∧ post ds
theorem u_asD {ds : List (Key × PV)} {post : List (Key × PV) → Prop} (h : post ds) : asD (.dK ds) post := ⟨ds, rfl, h⟩
theorem u_asDT {ds : List (List Key × PV)} {post : List (List Key × PV) → Prop} (h : post ds) : asDT (.dT ds) post := ⟨ds, rfl, h⟩
theorem u_ofD {p : PX PV} {post : List (Key × PV) → Prop} (h : p ρ fun d => asD d post) : pOfD p ρ post := h
theorem u_ofDT {p : PX PV} {post : List (List Key × PV) → Prop} (h : p ρ fun d => asDT d post) : pOfDT p ρ post := h
theorem u_vdO {ds : List (Key × PV)} {post : List (Key × PV) → Prop} (h1 : ρ[i]? = some (some (.oK ds))) (h : post ds) : pVd i ρ post := ⟨_, ds, h1, .inl rfl, h⟩
theorem u_vdS {ds : List (Key × PV)} {post : List (Key × PV) → Prop} (h1 : ρ[i]? = some (some (.sh (.dK ds)))) (h : post ds) : pVd i ρ post := ⟨_, ds, h1, .inr (.inl rfl), h⟩
theorem u_vdA {a : Addr} {ds : List (Key × PV)} {post : List (Key × PV) → Prop} (h1 : ρ[i]? = some (some (.atK (.obj a) a ds))) (h : post ds) : pVd i ρ post := ⟨_, ds, h1, .inr (.inr ⟨a, rfl⟩), h⟩
theorem u_vdTO {ds : List (List Key × PV)} {post : List (List Key × PV) → Prop} (h1 : ρ[i]? = some (some (.oT ds))) (h : post ds) : pVdT i ρ post := ⟨_, ds, h1, .inl rfl, h⟩
theorem u_vdTS {ds : List (List Key × PV)} {post : List (List Key × PV) → Prop} (h1 : ρ[i]? = some (some (.sh (.dT ds)))) (h : post ds) : pVdT i ρ post := ⟨_, ds, h1, .inr rfl, h⟩
theorem u_dnew {post : Vl → Prop} (h : post (.oK [])) : pDnew ρ post := h
theorem u_dnewT {post : Vl → Prop} (h : post (.oT [])) : pDnewT ρ post := h
theorem u_dget {kvs : List (Key × PV)} {y : PV} {k : Key} (h1 : keyOf y = some k) (h2 : lookD kvs k = some d) (h : post d) : fDget kvs y post := ⟨k, d, h1, h2, h⟩
theorem u_dgetT {kvs : List (List Key × PV)} {k : List Key} (h1 : keysOf ds = some k) (h2 : lookD kvs k = some d) (h : post d) : fDgetT kvs (.tup ds) post := ⟨ds, k, d, rfl, h1, h2, h⟩
theorem u_din {n : Bool} {kvs : List (Key × PV)} {y : PV} {k : Key} (h1 : keyOf y = some k) (h : post (.bl (if n then !(lookD kvs k).isSome else (lookD kvs k).isSome))) : fDin n y kvs post := ⟨k, h1, h⟩
theorem u_dinT {n : Bool} {kvs : List (List Key × PV)} {k : List Key} (h1 : keysOf ds = some k) (h : post (.bl (if n then !(lookD kvs k).isSome else (lookD kvs k).isSome))) : fDinT n (.tup ds) kvs post := ⟨ds, k, rfl, h1, h⟩
def dg2Q (kvs : List (Key × PV)) (y z : PV) (post : PV → Prop) : Prop := ∃ k, keyOf y = some k ∧ post ((lookD kvs k).getD z)
def dg2TQ (kvs : List (List Key × PV)) (y z : PV) (post : PV → Prop) : Prop := ∃ ds k, y = .tup ds ∧ keysOf ds = some k ∧ post ((lookD kvs k).getD z)
theorem u_dget2 {pd : PX (List (Key × PV))} {py px : PX PV} (h : pd ρ fun kvs => py ρ fun y => px ρ fun z => dg2Q kvs y z post) : pDget2 pd py px ρ post := h
theorem u_dget2T {pd : PX (List (List Key × PV))} {py px : PX PV} (h : pd ρ fun kvs => py ρ fun y => px ρ fun z => dg2TQ kvs y z post) : pDget2T pd py px ρ post := h
theorem u_dg2Q {kvs : List (Key × PV)} {y z : PV} {k : Key} (h1 : keyOf y = some k) (h : post ((lookD kvs k).getD z)) : dg2Q kvs y z post := ⟨k, h1, h⟩
theorem u_dg2TQ {kvs : List (List Key × PV)} {z : PV} {k : List Key} (h1 : keysOf ds = some k) (h : post ((lookD kvs k).getD z)) : dg2TQ kvs (.tup ds) z post := ⟨ds, k, rfl, h1, h⟩
def dpQ (i : Nat) (kvs : List (Key × PV)) (d y : PV) (ρ : En) (P : PEnds) : Prop := ∃ k, keyOf y = some k ∧ (kvs.map (·.1)).Nodup ∧ kvs.length < 16777216 ∧ P.nx (ρ.set i (some (.oK (putD kvs k d))))
def dpA (i : Nat) (pk : PX PV) (d : PV) (ρ : En) (P : PEnds) : Prop := ∃ kvs, ρ[i]? = some (some (.oK kvs)) ∧ pk ρ fun y => dpQ i kvs d y ρ P
theorem u_dput {pk p : PX PV} (h : p ρ fun d => dpA i pk d ρ P) : pDput i pk p P ρ := h
theorem u_dpA {pk : PX PV} {kvs : List (Key × PV)} (h1 : ρ[i]? = some (some (.oK kvs))) (h : pk ρ fun y => dpQ i kvs d y ρ P) : dpA i pk d ρ P := ⟨kvs, h1, h⟩
theorem u_dpQ {kvs : List (Key × PV)} {y : PV} {k : Key} (h1 : keyOf y = some k) (h2 : (kvs.map (·.1)).Nodup) (h3 : kvs.length < 16777216) (h : P.nx (ρ.set i (some (.oK (putD kvs k d))))) : dpQ i kvs d y ρ P := ⟨k, h1, h2, h3, h⟩
def dpTQ (i : Nat) (kvs : List (List Key × PV)) (d y : PV) (ρ : En) (P : PEnds) : Prop := ∃ ds k, y = .tup ds ∧ keysOf ds = some k ∧ (kvs.map (·.1)).Nodup ∧ kvs.length < 16777216 ∧ P.nx (ρ.set i (some (.oT (putD kvs k d))))
def dpTA (i : Nat) (pk : PX PV) (d : PV) (ρ : En) (P : PEnds) : Prop := ∃ kvs, ρ[i]? = some (some (.oT kvs)) ∧ pk ρ fun y => dpTQ i kvs d y ρ P
theorem u_dputT {pk p : PX PV} (h : p ρ fun d => dpTA i pk d ρ P) : pDputT i pk p P ρ := h
theorem u_dpTA {pk : PX PV} {kvs : List (List Key × PV)} (h1 : ρ[i]? = some (some (.oT kvs))) (h : pk ρ fun y => dpTQ i kvs d y ρ P) : dpTA i pk d ρ P := ⟨kvs, h1, h⟩
theorem u_dpTQ {kvs : List (List Key × PV)} {k : List Key} (h1 : keysOf ds = some k) (h2 : (kvs.map (·.1)).Nodup) (h3 : kvs.length < 16777216) (h : P.nx (ρ.set i (some (.oT (putD kvs k d))))) : dpTQ i kvs d (.tup ds) ρ P := ⟨ds, k, rfl, h1, h2, h3, h⟩
theorem u_par {j : Nat} {p q : PX PV} (h : p ρ fun d => q ρ fun e => P.nx ((ρ.set i (some (.sh d))).set j (some (.sh e)))) : pPar i j p q P ρ := h
def extQ (i : Nat) (ds es : List PV) (ρ : En) (P : PEnds) : Prop := ds.length + es.length ≤ 16777216 ∧ P.nx (ρ.set i (some (.ol (ds ++ es))))
theorem u_ext {p : PX (List PV)} (h1 : ρ[i]? = some (some (.ol ds))) (h : p ρ fun es => extQ i ds es ρ P) : pExt i p P ρ := ⟨ds, h1, h⟩
theorem u_extQ {es : List PV} (h1 : ds.length + es.length ≤ 16777216) (h : P.nx (ρ.set i (some (.ol (ds ++ es))))) : extQ i ds es ρ P := ⟨h1, h⟩
theorem u_revI (h1 : ρ[i]? = some (some (.ol ds))) (h : P.nx (ρ.set i (some (.ol ds.reverse)))) : pRevI i P ρ := ⟨ds, h1, h⟩
theorem u_ch {F F' : PV → PV → (PV → Prop) → Prop} {pa pb pc : PX PV} (h : pa ρ fun x => pb ρ fun y => F x y fun z => asB z fun k => if k = true then pc ρ fun w => F' y w post else post (.bl false)) : pCh F F' pa pb pc ρ post := h
theorem u_notT {p : PX Bool} (h : p ρ fun c => post (.bl (!c))) : pNotT p ρ post := h
theorem u_revS {p : PX PV} (h : p ρ fun d => asS d fun l => post (.str l.reverse)) : pRevS p ρ post := h
theorem u_revL {p : PX (List PV)} {post : Vl → Prop} (h : p ρ fun ds => post (.ol ds.reverse)) : pRevL p ρ post := h
theorem u_rg1 {p : PX PV} {post : Int → Int → Prop} (h : p ρ fun d => asI d fun n => post 0 n) : pRg1 p ρ post := h
def rg2Q (d e : PV) (post : Int → Int → Prop) : Prop := ∃ i j, d = .int i ∧ e = .int j ∧ post i j
theorem u_rg2 {p q : PX PV} {post : Int → Int → Prop} (h : p ρ fun d => q ρ fun e => rg2Q d e post) : pRg2 p q ρ post := h
theorem u_rg2Q {post : Int → Int → Prop} (h : post x y) : rg2Q (.int x) (.int y) post := ⟨x, y, rfl, rfl, h⟩
def rgQ (a b : Int) (Q : Prop) : Prop := rgCond a b ∧ Q
theorem u_rgQ {a b : Int} {Q : Prop} (h1 : -1000000000 ≤ a ∧ a ≤ 1000000000 ∧ -1000000000 ≤ b ∧ b ≤ 1000000000 ∧ b - a ≤ 16777216) (h : Q) : rgQ a b Q := ⟨h1, h⟩
theorem u_listRg {p : En → (Int → Int → Prop) → Prop} {post : Vl → Prop} (h : p ρ fun a b => rgQ a b (post (.ol (rngV a (b - a).toNat)))) : pListRg p ρ post := h
theorem u_tupRg {p : En → (Int → Int → Prop) → Prop} (h : p ρ fun a b => rgQ a b (post (.tup (rngV a (b - a).toNat)))) : pTupRg p ρ post := h
theorem u_srcRR {p : En → (Int → Int → Prop) → Prop} {post : List PV → Prop} (h : p ρ fun a b => rgQ a b (post (rngV a (b - a).toNat).reverse)) : pSrcRR p ρ post := h
theorem u_eqD {n : Bool} {x y : PV} (h1 : x.dat = true) (h2 : y.dat = true) (h3 : SeqAt.shaped x.toD = true) (h4 : SeqAt.shaped y.toD = true) (h : post (.bl (if n then !PyData.eqv x.toD y.toD else PyData.eqv x.toD y.toD))) : fEqD n x y post := ⟨h1, h2, h3, h4, h⟩
end
/-! ## small facts -/
theorem en_is {p : PSt} {P : PEnds} {ρ ρ' : En} (e : ρ' = ρ) (h : p P ρ) : p P ρ' := e ▸ h
theorem ite2 {A B : Prop} {c : Bool} (h1 : c = true → A) (h2 : c = false → B) : if c = true then A else B := by
  cases c with
  | true => exact h1 rfl
  | false => exact h2 rfl
section
variable {K : PySem.W.Frag} {PO : POk} {X : Cx}
/-! ## methods of texts with several arguments -/
def SMN (K : PySem.W.Frag) (PO : POk) (r : V → List V → Hp → VK → Prop) (F : List Nat → List PV → (PV → Prop) → Prop) : Prop :=
  ∀ {G H : Hp} {pl : PL} {l : List Nat} {ys : List V} {es : List PV} {Q : VK} {post : PV → Prop}, Ok PO G H pl → l.length ≤ 16777216 → Rl K pl G es ys → F l es post → (∀ v c G' H' pl', Stp PO G H pl G' H' pl' → Rs K pl' G' c v → post c → Q v H') → r (vS l) ys H Q
def pMN (F : List Nat → List PV → (PV → Prop) → Prop) (p : PX PV) (q : PX (List PV)) : PX PV := fun ρ post => p ρ fun d => ∃ l, d = .str l ∧ q ρ fun es => F l es post
theorem u_mN {F : List Nat → List PV → (PV → Prop) → Prop} {p : PX PV} {q : PX (List PV)} {ρ : En} {post : PV → Prop} (h : p ρ fun d => asS d fun l => q ρ fun es => F l es post) : pMN F p q ρ post := h
theorem qe_mN {id : String} {name : Str} {apos pos : Pos} {r : V → List V → Hp → VK → Prop} {F : List Nat → List PV → (PV → Prop) → Prop} {o e : Expr} {es : List Expr} {t : TE} {u : TA} {p : PX PV} {q : PX (List PV)} (pa : PlainAttrs "str") (slot : Slot "str" name id) (ty : typeOf (.builtin id) = pure (.type "method_descriptor")) (rule : MtR X id r) (ho : SMN K PO r F) (h : QX rS K PO X o t p) (k : QA K PO X (e :: es) u q)
    (hbase : attributeBase o name X.env (eval o X.env) = eval o X.env := by rfl)
    (hfew : ((backTo pos (starEach (e :: es) X.env)).all (fun x => !x.1) && (backToKw pos (keywordEach [] X.env)).all (fun x => x.1.isSome)
      && decide ((e :: es).length + ([] : List Keyword).length + (if ([] : List Keyword).isEmpty then 0 else 1) < 30)) = true := by rfl)
    (hline : (apos.endLine == pos.line) = true := by rfl) (hs : starEach (e :: es) X.env = (false, eval e X.env) :: starEach es X.env := by rfl) (hplain : (backTo pos (starEach es X.env)).any (·.1) = false := by rfl) :
    QX rS K PO X (.Call (.Attribute o name apos) (e :: es) [] pos) (tBM X.K "str" r t u) (pMN F p q) :=
  ⟨pe_bm pa slot ty rule h.pe k.pe hbase hfew hline hs hplain, fun r1 hp hq => h.sd r1 hp fun v d G1 H1 pl1 s1 hd hp1 => by
    obtain ⟨l, rfl, hp2⟩ := hp1
    obtain ⟨rfl, hl⟩ := rs_str (K := K) (pl := pl1) (G := G1) hd
    exact ⟨rfl, k.sd (r1.step s1) hp2 fun w e G2 H2 pl2 s2 he hp3 => ho s2.ok hl he hp3 fun w c G3 H3 pl3 s3 hc hp4 => hq w c G3 H3 pl3 ((s1.trans r1.ok s2).trans r1.ok s3) hc hp4⟩⟩
/-- text.startswith(word, at) -/
def zSw3 : V → List V → Hp → VK → Prop := fun x xs H Q => ∃ (a b : Str) (i : Int), x = .str a ∧ xs = [.str b, .int i] ∧ Q (.bl (Txt.startswith3 a b i)) H
theorem mt_sw3 : MtR X "str.startswith" zSw3 := mt_startswith3
def fSw3 : List Nat → List PV → (PV → Prop) → Prop := fun l es post => ∃ (b : List Nat) (i : Nat), es = [.str b, .int i] ∧ i ≤ l.length ∧ post (.bl (b.isPrefixOf (l.drop i)))
theorem sw3_is (l b : List Nat) (i : Nat) (h : i ≤ l.length) : Txt.startswith3 (S l) (S b) i = b.isPrefixOf (l.drop i) := by
  have e1 : PySem.fromIndex (S l).length i = i := by
    simp only [PySem.fromIndex]
    split <;> omega
  unfold Txt.startswith3
  rw [e1]
  unfold Builtin.Str.subAt
  have e2 : (S l).length = l.length := rfl
  have e3 : (S b).length = b.length := rfl
  rw [e2, e3]
  have e4 : ((S l).cps.extract i (i + b.length) == (S b).cps) = decide ((l.drop i).take b.length = b) := by
    show (l.toArray.extract i (i + b.length) == b.toArray) = _
    rw [Bool.eq_iff_iff, beq_iff_eq, decide_eq_true_iff, List.extract_toArray]
    simp [List.extract_eq_drop_take]
  rw [e4, Bool.eq_iff_iff, List.isPrefixOf_iff_prefix, Bool.and_eq_true, decide_eq_true_iff, decide_eq_true_iff]
  constructor
  · rintro ⟨_, h2⟩
    rw [← h2]
    exact List.take_prefix _ _
  · intro h2
    have := h2.length_le
    rw [List.length_drop] at this
    exact ⟨by omega, (List.prefix_iff_eq_take.mp h2).symm⟩
theorem sm_sw3 : SMN K PO zSw3 fSw3 := fun {G H pl l ys es Q post} o hl hy hf hq => by
  obtain ⟨b, i, rfl, hi, hp⟩ := hf
  obtain ⟨x, r, rfl, h1, h2⟩ := rl_cons hy
  obtain ⟨y, r, rfl, h3, h4⟩ := rl_cons h2
  rw [rl_nil h4, (rs_str (K := K) (pl := pl) (G := G) h1).1, rs_int (K := K) (pl := pl) (G := G) h3]
  refine ⟨S l, S b, i, rfl, rfl, ?_⟩
  rw [sw3_is l b i hi]
  exact hq _ (.bl _) G H pl (Stp.refl o) Rs.bl hp
def sw3Q (l : List Nat) (b : List Nat) (d : PV) (post : PV → Prop) : Prop := ∃ i : Nat, d = .int i ∧ i ≤ l.length ∧ post (.bl (b.isPrefixOf (l.drop i)))
theorem u_sw3 {l b : List Nat} {i : Nat} {post : PV → Prop} (h1 : i ≤ l.length) (h : post (.bl (b.isPrefixOf (l.drop i)))) : fSw3 l [.str b, .int (i : Int)] post := ⟨b, i, rfl, h1, h⟩
end
section
variable {α β : Type} {a b c d : α} {l xs : List α}
theorem atI_c0 : atI (a :: l) 0 = some a := by
  have := atI_nat (xs := a :: l) (j := 0) (v := a) rfl
  exact this
theorem atI_c1 : atI (a :: b :: l) 1 = some b := by
  have := atI_nat (xs := a :: b :: l) (j := 1) (v := b) rfl
  exact this
theorem atI_c2 : atI (a :: b :: c :: l) 2 = some c := by
  have := atI_nat (xs := a :: b :: c :: l) (j := 2) (v := c) rfl
  exact this
theorem atI_c3 : atI (a :: b :: c :: d :: l) 3 = some d := by
  have := atI_nat (xs := a :: b :: c :: d :: l) (j := 3) (v := d) rfl
  exact this
theorem atG_map {f : α → β} {i : Nat} {x : α} (h : xs[i]? = some x) : (xs.map f)[i]? = some (f x) := by rw [List.getElem?_map, h]; rfl
theorem atI_add {i j : Nat} {x : α} (h : xs[i + j]? = some x) : atI xs ((i : Int) + (j : Int)) = some x := by
  rw [← Int.natCast_add]
  exact atI_nat h
theorem atI_add1 {i : Nat} {x : α} (h : xs[i + 1]? = some x) : atI xs ((i : Int) + 1) = some x := atI_add (j := 1) h
end
section
variable {ρ : En} {P : PEnds} {ds : List PV}
theorem u_forRR {n k : Nat} {q : PV → En → (En → Prop) → Prop} {p : PSt} (I : Nat → En → Prop) (hk : k = n) (h0 : I 0 ρ) (hs : ∀ i ρ1, i < n → I i ρ1 → q (.int ((n - 1 - i : Nat) : Int)) ρ1 fun ρ2 => p { P with nx := I (i + 1), ct := I (i + 1), bk := P.nx } ρ2) (hd : ∀ ρ1, I n ρ1 → P.nx ρ1) : forQ q p P ρ (rngV 0 k).reverse := by
  subst hk
  refine u_forI I h0 (fun i d ρ1 e hI => ?_) (fun ρ1 hI => hd ρ1 (by rwa [List.length_reverse, rngV_len] at hI))
  have hi : i < k := by
    have := (List.getElem?_eq_some_iff.mp e).1
    rwa [List.length_reverse, rngV_len] at this
  rw [List.getElem?_reverse (by rw [rngV_len]; exact hi), rngV_len, rngV_at (by omega)] at e
  have : d = .int ((k - 1 - i : Nat) : Int) := by
    have := Option.some.inj e
    rw [← this]
    simp
  rw [this]
  exact hs i ρ1 hi hI
end
theorem rep_one {α : Type} (x : α) (n : Int) : rep n [x] = List.replicate n.toNat x := by
  unfold rep
  induction n.toNat with
  | zero => rfl
  | succ k ih => rw [List.replicate_succ, List.flatten_cons, ih]; rfl
theorem cutL_at {α : Type} (l : List α) (a k : Nat) (h : a + k ≤ l.length) : cutL l (some (a : Int)) (some ((a : Int) + (k : Int))) = (l.drop a).take k := by
  rw [← Int.natCast_add, cutL_nn l (by omega) h, Nat.add_sub_cancel_left]
theorem u_minL {ds : List PV} (ns : List Int) {post : PV → Prop} (e : ds = ns.map .int) (h0 : 0 < ns.length) (h : ∀ m, m ∈ ns → (∀ y ∈ ns, m ≤ y) → post (.int m)) : fMinL ds post := ⟨ns, e, h0, h⟩
theorem u_maxL {ds : List PV} (ns : List Int) {post : PV → Prop} (e : ds = ns.map .int) (h0 : 0 < ns.length) (h : ∀ m, m ∈ ns → (∀ y ∈ ns, y ≤ m) → post (.int m)) : fMaxL ds post := ⟨ns, e, h0, h⟩
theorem u_isiII {post : PV → Prop} {x : Int} (h : post (.bl true)) : fIsi [.int x, .ty "int"] post := u_isiI rfl h
theorem u_isiIB {post : PV → Prop} {x : Int} (h : post (.bl false)) : fIsi [.int x, .ty "bool"] post := u_isiI rfl h
theorem u_isiIS {post : PV → Prop} {x : Int} (h : post (.bl false)) : fIsi [.int x, .ty "str"] post := u_isiI rfl h
theorem u_isiSS {post : PV → Prop} {l : List Nat} (h : post (.bl true)) : fIsi [.str l, .ty "str"] post := u_isiS rfl h
theorem u_isiSI {post : PV → Prop} {l : List Nat} (h : post (.bl false)) : fIsi [.str l, .ty "int"] post := u_isiS rfl h
theorem u_isiTT {post : PV → Prop}  (h : post (.bl true)) : fIsi [.tup ds, .ty "tuple"] post := u_isiT rfl h
theorem u_isiTL {post : PV → Prop}  (h : post (.bl false)) : fIsi [.tup ds, .ty "list"] post := u_isiT rfl h
theorem u_isiLL {post : PV → Prop}  (h : post (.bl true)) : fIsi [.lst ds, .ty "list"] post := u_isiL rfl h
theorem u_isiLT {post : PV → Prop}  (h : post (.bl false)) : fIsi [.lst ds, .ty "tuple"] post := u_isiL rfl h
theorem u_isiBB {post : PV → Prop} {b : Bool} (h : post (.bl true)) : fIsi [.bl b, .ty "bool"] post := u_isiB rfl h
theorem u_isiBI {post : PV → Prop} {b : Bool} (h : post (.bl true)) : fIsi [.bl b, .ty "int"] post := u_isiB rfl h
theorem ite_dT {A B : Prop} {c : Prop} [Decidable c] (h : c) (k : A) : if decide c = true then A else B := by rw [if_pos (decide_eq_true h)]; exact k
theorem ite_ndT {A B : Prop} {c : Prop} [Decidable c] (h : c) (k : B) : if (!decide c) = true then A else B := by rw [if_neg (by rw [decide_eq_true h]; simp)]; exact k
theorem u_forN {n k : Nat} {q : PV → En → (En → Prop) → Prop} {p : PSt} (I : Nat → En → Prop) (h0 : I 0 ρ) (hs : ∀ i ρ1, i < n → I i ρ1 → q (.int (i : Nat)) ρ1 fun ρ2 => p { P with nx := I (i + 1), ct := I (i + 1), bk := P.nx } ρ2) (hd : ∀ ρ1, I n ρ1 → P.nx ρ1)
    (hk : k = n := by first | omega | (simp only [List.length_append, List.length_map, List.length_cons, List.length_nil, List.length_range, List.length_set, List.length_reverse, List.length_replicate] ; omega)) : forQ q p P ρ (rngV 0 k) := by
  subst hk
  exact u_forR0 I h0 hs hd
theorem flat_chr (w : List Nat) : (w.map fun c => [c]).flatten = w := by
  induction w with
  | nil => rfl
  | cons c w ih => rw [List.map_cons, List.flatten_cons, ih]; rfl
theorem join_chrs {w : List Nat} {post : PV → Prop} (hz : w.length ≤ 16777216) (h : post (.str w)) : fJoin0 [] (chrs w) post := ⟨rfl, w.map fun c => [c], by unfold chrs; rw [List.map_map]; rfl, by rw [flat_chr]; exact hz, by rw [flat_chr]; exact h⟩
theorem chrs_app (w : List Nat) (c : Nat) : chrs w ++ [.str [c]] = chrs (w ++ [c]) := by unfold chrs; rw [List.map_append]; rfl
theorem chrs_len (w : List Nat) : (chrs w).length = w.length := by unfold chrs; rw [List.length_map]
/-- sorted letters, joined -/
theorem sort_chrs {w : List Nat} {post : Vl → Prop} (hz : w.length < 64) (h : ∀ u : List Nat, u.Perm w → post (.ol (chrs u))) : fSortS (chrs w) post := by
  refine ⟨w.map fun c => [c], by unfold chrs; rw [List.map_map]; rfl, by rw [List.length_map]; exact hz, fun ms hp hso => ?_⟩
  have e : ms = ms.flatten.map fun c => [c] := by
    have : ∀ m ∈ ms, ∃ c, m = [c] := fun m hm => by
      obtain ⟨c, _, e⟩ := List.mem_map.mp (hp.mem_iff.mp hm)
      exact ⟨c, e.symm⟩
    clear hp hso
    induction ms with
    | nil => rfl
    | cons m ms ih =>
      obtain ⟨c, rfl⟩ := this m (by simp)
      rw [List.flatten_cons, List.map_append, ← ih fun m hm => this m (by simp [hm])]
      rfl
  have h2 := h ms.flatten (by have := hp.flatten; rwa [flat_chr] at this)
  unfold chrs at h2
  rw [e, List.map_map]
  exact h2
theorem u_inChr {n : Bool} {c : Nat} {cs : List Nat} {post : PV → Prop} (h : post (.bl (if n then !decide (c ∈ cs) else decide (c ∈ cs)))) : fIn n (.str [c]) (chrs cs) post := by
  have e : chrs cs = (cs.map fun c => [c]).map PV.str := by unfold chrs; rw [List.map_map]; rfl
  have e2 : decide ([c] ∈ cs.map fun c => [c]) = decide (c ∈ cs) := by simp
  rw [e]
  refine u_inS ?_
  rw [e2]
  exact h
section
variable {K : PySem.W.Frag} {PO : POk} {X : Cx}
/-! ## dict comprehensions, keys ints or texts -/
def pDc (src : PX (List PV)) (q : PV → En → (En → Prop) → Prop) (pt : PX Bool) (pk pv : PX PV) (vs : List Nat) : PX Vl := fun ρ post => src ρ fun ds => ∃ I : Nat → List (Key × PV) → Prop, I 0 [] ∧
  (∀ i d kvs, ds[i]? = some d → kvs.length ≤ i → I i kvs → q d (wipeN ρ vs) fun ρ2 => pt ρ2 fun b => if b = true then pk ρ2 fun y => pv ρ2 fun z => ∃ k, keyOf y = some k ∧ (kvs.map (·.1)).Nodup ∧ I (i + 1) (putD kvs k z) else I (i + 1) kvs) ∧ ∀ kvs, kvs.length ≤ ds.length → I ds.length kvs → post (.oK kvs)
theorem so_dc {wi : TI} {g : TG} {tt : TT} {tk te : TE} {vs : List Nat} {src : PX (List PV)} {ws : List Nat} {q : PV → En → (En → Prop) → Prop} {pt : PX Bool} {pk pe : PX PV} (hw : ∀ j ∈ ws, j ∈ vs) (hi : SIc K PO wi src) (hg : SG K PO g ws q) (ht : ST K PO tt pt) (hk : SX rS K PO tk pk) (he : SX rS K PO te pe) : SO K PO (tDc wi g tt tk te vs) (pDc src q pt pk pe vs) :=
  fun {B G0 G H pl σ ρ Q post} r hp hq => by
  refine hi r hp fun J ds G1 H1 pl1 s1 it hl hp1 => ?_
  obtain ⟨I, i0, turn, fin⟩ := hp1
  intro Dl hD
  have r1 := r.step s1
  have sD : Stp PO G1 H1 pl1 G1 (upd H1 Dl (.dK [])) pl1 := Stp.tmp s1.ok hD
  have hp1 : Dl ∉ pads pl1 := fun z => s1.ok.live Dl z hD
  refine ⟨fun i m H' => m = ds.length - i ∧ i ≤ ds.length ∧ ∃ G2 pl2 ys xs, Rel K PO B G0 G2 H' pl2 σ ρ ∧ Stp PO G1 H1 pl1 G2 H' pl2 ∧ H' Dl = some (.dK xs) ∧ G2 Dl = none ∧ Dl ∉ pads pl2 ∧ Rk K pl2 G2 ys xs ∧ ys.length ≤ i ∧ I i ys,
    ⟨ds.length, by simp, Nat.zero_le _, G1, pl1, [], [], r1.step sD, sD, upd_same, s1.ok.sub.free hD, hp1, (by unfold Rk; rfl), Nat.le_refl _, i0⟩, ?_⟩
  rintro i m H2 ⟨rfl, hle, G2, pl2, ys, xs, r2, s2, h1, h2, h3, h4, h5, hI⟩
  obtain ⟨st, go⟩ := it i G2 H2 pl2 r2.ok s2
  by_cases hlt : i < ds.length
  · obtain ⟨g1, g2⟩ := go ds[i] (List.getElem?_eq_getElem hlt)
    refine .inr ⟨g1, fun H' => ∃ G2 pl2 ys xs, Rel K PO B G0 G2 H' pl2 σ ρ ∧ Stp PO G1 H1 pl1 G2 H' pl2 ∧ H' Dl = some (.dK xs) ∧ G2 Dl = none ∧ Dl ∉ pads pl2 ∧ Rk K pl2 G2 ys xs ∧ ys.length ≤ i + 1 ∧ I (i + 1) ys, fun H' n => ⟨ds.length - (i + 1), by omega, rfl, hlt, n⟩, fun x H3 y => ?_⟩
    obtain ⟨G3, s3, hd⟩ := g2 x H3 y
    have r3 := r2.step s3
    refine hg (r3.wipe vs) hd (turn i _ ys (List.getElem?_eq_getElem hlt) h5 hI) fun σ4 ρ4 r4 l4 n4 hp4 => ?_
    refine ⟨?_, ?_⟩
    · rw [wipe_same l4 (fun j hj => n4 j fun z => hj (hw j z)), wipe_wipe]
    have k3 : H3 Dl = some (.dK xs) := s3.h Dl _ h1 h3
    have k3n : G3 Dl = none := (s3.gn Dl (.dK h1)).trans h2
    refine ht r4 hp4 fun b G5 H5 pl5 s5 hp5 => ?_
    have k5 : H5 Dl = some (.dK xs) := s5.h Dl _ k3 (s5.off (by rw [k3]; simp) h3)
    have k5n : G5 Dl = none := (s5.gn Dl (.dK k3)).trans k3n
    have k5p : Dl ∉ pads pl5 := s5.off (by rw [k3]; simp) h3
    have s25 := s3.trans r2.ok s5
    cases b with
    | false =>
      exact ⟨G5, pl5, ys, xs, r3.step s5, s2.trans s1.ok s25, k5, k5n, k5p, Rk.mono s25.g s25.le _ _ h4, by omega, hp5⟩
    | true =>
      refine hk (r4.step s5) hp5 fun y dy G7 H7 pl7 s7 hd7 hp7 => ?_
      have k7 : H7 Dl = some (.dK xs) := s7.h Dl _ k5 (s7.off (by rw [k5]; simp) k5p)
      have k7n : G7 Dl = none := (s7.gn Dl (.dK k5)).trans k5n
      have k7p : Dl ∉ pads pl7 := s7.off (by rw [k5]; simp) k5p
      have s27 := s25.trans r2.ok s7
      refine he ((r4.step s5).step s7) hp7 fun z d G6 H6 pl6 s6 hd6 hp6 => ?_
      obtain ⟨k, hk', nd, hp6⟩ := hp6
      have k6 : H6 Dl = some (.dK xs) := s6.h Dl _ k7 (s6.off (by rw [k7]; simp) k7p)
      have k6n : G6 Dl = none := (s6.gn Dl (.dK k7)).trans k7n
      have k6p : Dl ∉ pads pl6 := s6.off (by rw [k7]; simp) k7p
      have s26 := s27.trans r2.ok s6
      have h4' := Rk.mono s26.g s26.le _ _ h4
      have hkeys := rk_keys h4
      have hlen : xs.length = ys.length := by have := congrArg List.length hkeys; rwa [List.length_map, List.length_map] at this
      have r6 := r2.step s26
      have s16 := s2.trans s1.ok s26
      refine ⟨xs, k, keyOf_ok (K := K) (pl := pl7) (G := G7) hd7 hk', k6, by rw [line_eq]; omega, G6, pl6, putD ys k d, putK xs k z, ?_, ?_, upd_same, k6n, k6p, ?_, by have := putD_len k d ys; omega, hp6⟩
      · have hB : B Dl = none := by
          cases eB : B Dl with
          | none => rfl
          | some o => exact absurd hD (r1.on Dl (by rw [eB]; simp))
        have hext : Ok PO G6 (upd H6 Dl (.dK (putK xs k z))) pl6 := by
          refine ⟨fun b o eb => ?_, fun v as ep => ⟨PO.ext _ _ _ _ (r6.ok.pok v as ep).1 fun a ha => upd_ne fun z => ?_, (r6.ok.pok v as ep).2⟩⟩
          · rw [upd_ne fun z => by subst z; rw [k6n] at eb; cases eb]
            exact r6.ok.sub b o eb
          · subst z
            exact k6p (by rw [ep]; exact ha)
        refine ⟨hext, r6.gb, fun a ha => ?_, fun b o eb hb => ?_, r6.len, ?_⟩
        · by_cases z : a = Dl
          · subst z; rw [upd_same]; simp
          · rw [upd_ne z]; exact r6.on a ha
        · rw [upd_ne fun z => by subst z; rw [hB] at eb; cases eb]
          exact r6.fr b o eb hb
        · obtain ⟨fp, f1, f2, f3, f4⟩ := r1.ex2
          have dj : ∀ i a, a ∈ fp i → a ≠ Dl := fun i a ha z => (f4 i a ha).2.2.2.1 (z ▸ hD)
          refine ⟨fp, fun j vl' ej => ?_, f2, f3, fun j a ha => ?_⟩
          · obtain ⟨v', e1, e2⟩ := f1 j vl' ej
            refine ⟨v', e1, e2.mono s16.g s16.le fun a ha o eo => ?_⟩
            rw [upd_ne (dj j a ha)]
            exact s16.h a o eo (s16.off (f4 j a ha).2.2.2.1 (f4 j a ha).2.2.1)
          · obtain ⟨q1, q2, q3, q4⟩ := f4 j a ha
            rw [upd_ne (dj j a ha)]
            exact ⟨(s16.gn a q4).trans q1, q2, s16.off q4.1 q3, s16.on s1.ok q4.1⟩
      · refine ⟨s16.g, s16.gn, fun b o eb hb => ?_, s16.pl, ?_⟩
        · rw [upd_ne (ne_of_none eb hD)]
          exact s16.h b o eb hb
        · refine ⟨fun b o eb => ?_, fun v as ep => ⟨PO.ext _ _ _ _ (r6.ok.pok v as ep).1 fun a ha => upd_ne fun z => ?_, (r6.ok.pok v as ep).2⟩⟩
          · rw [upd_ne fun z => by subst z; rw [k6n] at eb; cases eb]
            exact r6.ok.sub b o eb
          · subst z
            exact k6p (by rw [ep]; exact ha)
      · rw [put_eq xs k z (by rw [hkeys]; exact nd)]
        exact rk_put hd6 k h4'
  · have hi : i = ds.length := by omega
    subst hi
    refine .inl ⟨st rfl, ?_⟩
    have hlen : xs.length = ys.length := by have := congrArg List.length (rk_keys h4); rwa [List.length_map, List.length_map] at this
    refine hq (.ref Dl) (.oK ys) [Dl] G2 H2 pl2 (s1.trans r.ok s2) ⟨Dl, xs, rfl, rfl, h1, h4, by omega⟩ (by simp) (fun a ha => ?_) (fin ys h5 hI)
    rw [List.mem_singleton.mp ha]
    exact ⟨fresh_on r.ok s1 hD, h2, h3⟩
theorem qo_dc {kx elt tg iter : Expr} {ifs : List Expr} {scope : Scope} {own : List (Str × Nat)} {pos : Pos} {wi : TI} {g : TG} {tt : TT} {tk te : TE} {src : PX (List PV)} {ws : List Nat} {q : PV → En → (En → Prop) → Prop} {pt : PX Bool} {pk pe : PX PV} (hc : X.calm = true) (hN : X.N.Nodup)
    (hi : QIc K PO X tg iter wi src) (ok : BlkOk X.N X.env.scope scope own)
    (hg : ∀ (s : Shared) (H : Hp) (C : Addr) (cl : List (Str × Addr)) (fp : List Addr), QG K PO (X.blk s H scope (compEnvC scope cl C X.env) fp) tg g ws q) (ht : ∀ (s : Shared) (H : Hp) (C : Addr) (cl : List (Str × Addr)) (fp : List Addr), QTs K PO (X.blk s H scope (compEnvC scope cl C X.env) fp) ifs tt pt)
    (hk : ∀ (s : Shared) (H : Hp) (C : Addr) (cl : List (Str × Addr)) (fp : List Addr), QX rS K PO (X.blk s H scope (compEnvC scope cl C X.env) fp) kx tk pk)
    (he : ∀ (s : Shared) (H : Hp) (C : Addr) (cl : List (Str × Addr)) (fp : List Addr), QX rS K PO (X.blk s H scope (compEnvC scope cl C X.env) fp) elt te pe) (hw : ∀ j ∈ ws, j ∈ own.map (·.2)) (hs : ∀ x, foldedSetIterable iter X.env x = pure x := by intro _; rfl) :
    QO K PO X (.DictComp kx elt [⟨tg, iter, ifs, 0⟩] scope pos) (tDc wi g tt tk te (own.map (·.2))) (pDc src q pt pk pe (own.map (·.2))) :=
  ⟨pe_dc hc hN hi.pe ok (fun s H C cl fp => (hg s H C cl fp).pe) (fun s H C cl fp => (ht s H C cl fp).pe) (fun s H C cl fp => (hk s H C cl fp).pe) (fun s H C cl fp => (he s H C cl fp).pe) hs,
    so_dc hw hi.sd (hg X.s_0 X.H_0 0 [] []).sd (ht X.s_0 X.H_0 0 [] []).sd (hk X.s_0 X.H_0 0 [] []).sd (he X.s_0 X.H_0 0 [] []).sd⟩
end
/-! ## try: .. except x as n: .. and further clauses: the first one catches all that comes -/
def wFst (K : PySem.W.Frag) (c : Value) (i : Nat) (ts : Addr → Value → Option Addr → TS) (D : Ends) : WX := fun k d τ H =>
  PySem.W.exmOne K k c = some true ∧ ∀ p, H p = none → ts p k d { rt := D.rt, nx := fun τ' H' => D.nx (τ'.set i none) H', ct := fun τ' H' => D.ct (τ'.set i none) H', bk := fun τ' H' => D.bk (τ'.set i none) H' } (τ.set i (some (.ref p))) H
section
variable {X : Cx} {x n : Str} {c : Value} {i : Nat} {inner suite : List Stmt} {st0 : Stmt} {p1 p2 p3 : Pos} {rest : List ExceptHandler} {tb : WX → TS} {ts : Addr → Value → Option Addr → TS}
theorem ps_tryFst (hst : X.stack = X.env :: X.outer) (hfl : X.env.frame = some X.env.locals) (nd : X.N.Nodup) (hni : X.N[i]? = some n) (hkn : X.env.kindOf n = some .local) (nm : Names X x c)
    (inn : ∀ (V : WX) (pn : List (Addr × Obj)) (xe : Value → Shared → Prop), Takes (X.tr pn xe) V → PassesOwn (model X.prog X.w) X.A X.env xe → PSs (X.tr pn xe) inner (tb V))
    (sui : ∀ (p : Addr) (ob : Obj) (k : Value) (d : Option Addr) (pn : List (Addr × Obj)), Zc k d ob → (∃ vs, ob.data = .fields vs) → PSs (X.suite p ((p, ob) :: pn)) (st0 :: suite) (ts p k d)) :
    PS X (.Try inner (.ExceptHandler (some (.Name x p1)) (some n) (st0 :: suite) p2 :: rest) [] [] p3) (fun D τ H => tb (wFst X.K c i ts D) D τ H) := by
  refine ⟨fun pins z0 τ H D inv hyp => ?_⟩
  have okX := inv.ok
  have frX : X.A.frames = some (X.env :: X.outer) := by rw [okX.frames, hst]
  have locX : Loc X.env.scope n := .inl hkn
  refine wpAny_Try_except ?_
  refine wpAny_mono ((inn (wFst X.K c i ts D) (X.pn ++ pins) (fun ex z1 => wpAny (model X.prog X.w) X.A (noteFrame ex X.env) (fun _ z2 => wpAny (model X.prog X.w) X.A (setFlight ex none) (fun _ z3 =>
      wpAny (model X.prog X.w) X.A (handleBy ex X.env (.ExceptHandler (some (.Name x p1)) (some n) (st0 :: suite) p2 :: rest)) (SP X pins D) X.xe z3) X.xe z2) X.xe z1) (fun ev z4 caught => ?_) PassesOwn.looking).run [] z0 τ H D (inv.toTry _) hyp) (fun fl z5 ends => ?_) (fun _ _ bad => bad)
  · obtain ⟨p, B, sI, pins', τ', H', k, d, rfl, invT, nob, upw, skyT, hnone, osT, agT, mt, yes⟩ := caught
    have invJ : Inv X pins τ' H' sI := invT.ofTry okX
    have skyX : Sky B (X.env :: X.outer) p (Zc k d) X.env.locals z4.heap := by rw [← hst]; exact skyT
    show wpAny (model X.prog X.w) X.A (noteFrame (.ref p) X.env) _ _ _
    refine Sky.land Zc.steady frX hfl skyX fun hp3 flew3 upw3 => ?_
    have inv3 : Inv X pins τ' H' { z4 with heap := hp3 } := invJ.landed nob flew3.1 (upw.trans upw3) osT agT
    obtain ⟨ob3, vals3, get3, zc3, dat3⟩ := flew3.there
    have notF : p ∉ frs (X.env :: X.outer) := fun mem => by
      obtain ⟨_, ob', get', nofr⟩ := flew3.2.2.1.mem mem
      rw [get3] at get'; cases get'
      exact nofr _ dat3
    have neL : p ≠ X.env.locals := fun eqL => notF (List.mem_filterMap.mpr ⟨X.env, List.mem_cons_self, by rw [hfl, eqL]⟩)
    have neF : p ∉ X.fs := fun mem => by
      obtain ⟨en, men, qen⟩ := List.mem_filterMap.mp mem
      exact notF (List.mem_filterMap.mpr ⟨en, List.mem_cons_of_mem _ men, qen⟩)
    have invS := inv3.suite get3 dat3 hnone neL neF
    refine wpAny_handleBy_cons (codeAny_handlers_test ?_) (by intro bad; cases bad)
    have looks : PySem.W.Looks (model X.prog X.w) hp3 (typeOf (.ref p)) k := fun A Q E z kk qq => wpAny_typeOf_ref (kk _ _ get3) (by rw [zc3.1]; exact qq)
    have meets := PySem.W.exm_one (M := model X.prog X.w) (inv3.kIn) looks mt
    have named : ∀ {Q : Value → Shared → Prop} {E : Value → Shared → Prop}, Q c { z4 with heap := hp3 } → wpAny (model X.prog X.w) (X.A.mark (some (.ref p))) (eval (.Name x p1) X.env) Q E { z4 with heap := hp3 } := fun {Q E} qq => by
      obtain ⟨gl, db, m1 | ⟨m1, m2, m3⟩⟩ := nm
      · exact ld_glob (X := X.suite p ((p, ob3) :: (X.pn ++ pins))) invS gl m1 qq db
      · exact ld_blt (X := X.suite p ((p, ob3) :: (X.pn ++ pins))) invS gl m1 m2 qq m3 db
    refine named (meets.here ?_)
    refine codeAny_handlers_suite_as ?_
    refine HandSPX.lands_againZ flew3 fun hp4 flew4 upw4 => ?_
    have inv4 : Inv X pins τ' H' { z4 with heap := hp4 } := invJ.landed nob flew4.1 ((upw.trans upw3).trans upw4) osT agT
    obtain ⟨ob4, vals4, get4, zc4, dat4⟩ := flew4.there
    have invS4 := inv4.suite get4 dat4 hnone neL neF
    refine store_ok (X := X.suite p ((p, ob4) :: (X.pn ++ pins))) (v := .ref p) invS4 nd hni locX rfl (fun z6 inv6 => ?_) (.inr hkn)
    refine wpAny_mono ((sui p ob4 k d (X.pn ++ pins) zc4 ⟨_, dat4⟩).run [] z6 _ H' _ inv6 (yes p hnone)) (fun fl z7 ends => ?_) (fun _ _ bad => False.elim bad)
    have close : ∀ {τ7 : L2.St} {H7 : Hp} {Q : Shared → Prop}, Inv (X.suite p ((p, ob4) :: (X.pn ++ pins))) [] τ7 H7 z7 → (∀ z8, Inv X pins (τ7.set i none) H7 z8 → Q z8) →
        wpAny (model X.prog X.w) X.A (do bindName X.env n .none; unbindBehindTheSuite X.env n p2) (fun _ z8 => Q z8) X.xe z7 := fun {τ7 H7 Q} inv7 qq => gone_ok (inv7.unsuite okX) nd hni hkn qq
    cases fl with
    | ret u =>
      obtain ⟨v7, τ7, H7, inv7, rv7, qq⟩ := ends
      exact close inv7 fun z8 inv8 => ⟨_, _, _, inv8, rv7, qq⟩
    | next =>
      obtain ⟨τ7, H7, inv7, qq⟩ := ends
      exact close inv7 fun z8 inv8 => ⟨_, _, inv8, qq⟩
    | brk =>
      obtain ⟨τ7, H7, inv7, qq⟩ := ends
      exact close inv7 fun z8 inv8 => ⟨_, _, inv8, qq⟩
    | cont =>
      obtain ⟨τ7, H7, inv7, qq⟩ := ends
      exact close inv7 fun z8 inv8 => ⟨_, _, inv8, qq⟩
  · cases fl with
    | ret u =>
      obtain ⟨v5, τ5, H5, inv5, rv5, qq⟩ := ends
      exact ⟨v5, τ5, H5, inv5.ofTry okX, rv5, qq⟩
    | next =>
      obtain ⟨τ5, H5, inv5, qq⟩ := ends
      exact wpAny_execs_nil ⟨τ5, H5, inv5.ofTry okX, qq⟩
    | brk =>
      obtain ⟨τ5, H5, inv5, qq⟩ := ends
      exact ⟨τ5, H5, inv5.ofTry okX, qq⟩
    | cont =>
      obtain ⟨τ5, H5, inv5, qq⟩ := ends
      exact ⟨τ5, H5, inv5.ofTry okX, qq⟩
end
section
variable {K : PySem.W.Frag} {PO : POk} {X : Cx} {W : WX}
def pTryFst (pb : PSt) (c : Value) (K : PySem.W.Frag) (i : Nat) (ps : Addr → Value → Option Addr → PSt) : PSt := fun P ρ => pb { P with er := fun e ρ' => PySem.W.exmOne K (.ref e.C) c = some true ∧ ∀ a dd, ps a (.ref e.C) (some dd) { P with nx := fun ρ2 => P.nx (ρ2.set i none), bk := fun ρ2 => P.bk (ρ2.set i none), ct := fun ρ2 => P.ct (ρ2.set i none), er := fun _ _ => False } (ρ'.set i (some (.er e a dd))) } ρ
theorem u_tryFst {pb : PSt} {c : Value} {i : Nat} {ps : Addr → Value → Option Addr → PSt} {P : PEnds} {ρ : En} (h : pb { P with er := fun e ρ' => PySem.W.exmOne K (.ref e.C) c = some true ∧ ∀ a dd, ps a (.ref e.C) (some dd) { P with nx := fun ρ2 => P.nx (ρ2.set i none), bk := fun ρ2 => P.bk (ρ2.set i none), ct := fun ρ2 => P.ct (ρ2.set i none), er := fun _ _ => False } (ρ'.set i (some (.er e a dd))) } ρ) : pTryFst pb c K i ps P ρ := h
theorem qs_tryFst {x n : Str} {i : Nat} {c : Value} {body suite : List Stmt} {b₀ : Stmt} {np pos pos' : Pos} {rest : List ExceptHandler} {tb : WX → TS} {ts : Addr → Value → Option Addr → TS} {pb : PSt} {ps : Addr → Value → Option Addr → PSt} (hK : X.K = K) (hs : X.stack = X.env :: X.outer) (hf : X.env.frame = some X.env.locals) (hN : X.N.Nodup) (hi : X.N[i]? = some n) (hln : X.env.kindOf n = some .local) (hc : Names X x c)
    (hb : ∀ (W' : WX) (pn : List (Addr × Obj)) (xe : Value → Shared → Prop), Takes (X.tr pn xe) W' → PassesOwn (model X.prog X.w) X.A X.env xe → QB K PO W' (X.tr pn xe) body (tb W') pb)
    (hsu : ∀ (a : Addr) (oe : Obj) (cls : Value) (d : Option Addr) (pn : List (Addr × Obj)), Zc cls d oe → (∃ vs, oe.data = .fields vs) → QB K PO (fun _ _ _ _ => False) (X.suite a ((a, oe) :: pn)) (b₀ :: suite) (ts a cls d) (ps a cls d)) :
    QS K PO W X (.Try body (.ExceptHandler (some (.Name x np)) (some n) (b₀ :: suite) pos' :: rest) [] [] pos) (fun D σ H => tb (wFst K c i ts D) D σ H) (pTryFst pb c K i ps) := by
  subst hK
  refine ⟨ps_tryFst hs hf hN hi hln hc (fun W' pn xe tk' po => (hb W' pn xe tk' po).pe) (fun a oe cls d pn hz hv => (hsu a oe cls d pn hz hv).pe), fun {B G0 G H pl σ ρ D P} r e hp => ?_⟩
  refine (hb (wFst X.K c i ts D) [] (fun e s' => wpAny (model X.prog X.w) X.A (noteFrame e X.env) (fun _ s2 => wpAny (model X.prog X.w) X.A (setFlight e none) (fun _ _ => True) (fun _ _ => True) s2) (fun _ _ => True) s') (fun u s' xx => ?_) PassesOwn.looking).sd (P := { P with er := fun e ρ' => PySem.W.exmOne X.K (.ref e.C) c = some true ∧ ∀ a dd, ps a (.ref e.C) (some dd) { P with nx := fun ρ2 => P.nx (ρ2.set i none), bk := fun ρ2 => P.bk (ρ2.set i none), ct := fun ρ2 => P.ct (ρ2.set i none), er := fun _ _ => False } (ρ'.set i (some (.er e a dd))) }) r ⟨e.nx, e.bk, e.ct, e.rt, fun {G' H' pl' σ' ρ' er dd xs} s le r' g f q => ?_⟩ hp
  · obtain ⟨a, B, sI, pins', σ', H', cls, d, rfl, J', nb, up, sky, na, os, ag, _⟩ := xx
    have ok : X.Ok := J'.ok.ofTry
    have hfr : X.A.frames = some (X.env :: X.outer) := by rw [ok.frames, hs]
    have sky' : Sky B (X.env :: X.outer) a (Zc cls d) X.env.locals s'.heap := by rw [← hs]; exact sky
    exact Sky.land Zc.steady hfr hf sky' fun h3 fl3 up3 => trivial
  · obtain ⟨h1, h2⟩ := q
    refine ⟨h1, fun a ha => ?_⟩
    have r2 : Rel X.K PO B G0 G' H' pl' (σ'.set i (some (.ref a))) (ρ'.set i (some (.er er a dd))) := (r'.push (Stp.refl r'.ok) (vl := .er er a dd) (v := .ref a) ⟨rfl, rfl, xs, g, f⟩ List.nodup_nil (fun a ha => nomatch ha)).set
    have e2 := e.mono s le
    refine (hsu a { cls := .ref er.C, dict := some dd, data := .fields #[] } (.ref er.C) (some dd) [] ⟨rfl, rfl⟩ ⟨_, rfl⟩).sd (P := { P with nx := fun ρ2 => P.nx (ρ2.set i none), bk := fun ρ2 => P.bk (ρ2.set i none), ct := fun ρ2 => P.ct (ρ2.set i none), er := fun _ _ => False }) r2 ⟨?_, ?_, ?_, e2.rt, fun _ _ _ _ _ h => h.elim⟩ (h2 a dd)
    · exact fun s1 l1 r1 q1 => e2.nx s1 l1 (r1.clear i) q1
    · exact fun s1 l1 r1 q1 => e2.bk s1 l1 (r1.clear i) q1
    · exact fun s1 l1 r1 q1 => e2.ct s1 l1 (r1.clear i) q1
/-! ## walk lemmas for dict comprehensions -/
def dcQ (q : PV → En → (En → Prop) → Prop) (pt : PX Bool) (pk pv : PX PV) (vs : List Nat) (ρ : En) (post : Vl → Prop) (ds : List PV) : Prop := ∃ I : Nat → List (Key × PV) → Prop, I 0 [] ∧
  (∀ i d kvs, ds[i]? = some d → kvs.length ≤ i → I i kvs → q d (wipeN ρ vs) fun ρ2 => pt ρ2 fun b => if b = true then pk ρ2 fun y => pv ρ2 fun z => ∃ k, keyOf y = some k ∧ (kvs.map (·.1)).Nodup ∧ I (i + 1) (putD kvs k z) else I (i + 1) kvs) ∧ ∀ kvs, kvs.length ≤ ds.length → I ds.length kvs → post (.oK kvs)
theorem u_dc {src : PX (List PV)} {q : PV → En → (En → Prop) → Prop} {pt : PX Bool} {pk pv : PX PV} {vs : List Nat} {ρ : En} {post : Vl → Prop} (h : src ρ fun ds => dcQ q pt pk pv vs ρ post ds) : pDc src q pt pk pv vs ρ post := h
/-- putD on many -/
def putAll {κ α : Type} [DecidableEq κ] (l : List (κ × α)) : List (κ × α) := l.foldl (fun kvs p => putD kvs p.1 p.2) []
theorem putD_keys {κ α : Type} [DecidableEq κ] (k : κ) (v : α) : ∀ kvs : List (κ × α), (putD kvs k v).map (·.1) = if k ∈ kvs.map (·.1) then kvs.map (·.1) else kvs.map (·.1) ++ [k] := by
  intro kvs
  induction kvs with
  | nil => rfl
  | cons a r ih =>
    obtain ⟨k', u⟩ := a
    show (if k' = k then (k', v) :: r else (k', u) :: putD r k v).map (·.1) = _
    by_cases h : k' = k
    · subst h; simp
    · rw [if_neg h, List.map_cons, ih]
      have h' : ¬ k = k' := fun e => h e.symm
      by_cases m : k ∈ r.map (·.1)
      · rw [if_pos m, if_pos (by simp only [List.map_cons, List.mem_cons]; exact .inr m)]; rfl
      · rw [if_neg m, if_neg (by simp only [List.map_cons, List.mem_cons, not_or]; exact ⟨h', m⟩)]; rfl
theorem putD_nd {κ α : Type} [DecidableEq κ] {k : κ} {v : α} {kvs : List (κ × α)} (h : (kvs.map (·.1)).Nodup) : ((putD kvs k v).map (·.1)).Nodup := by
  rw [putD_keys]
  split
  · exact h
  · rename_i m
    exact List.nodup_append.mpr ⟨h, by simp, fun a ha b hb e => by rw [List.mem_singleton.mp hb] at e; exact m (e ▸ ha)⟩
theorem look_put {κ α : Type} [DecidableEq κ] (k : κ) (v : α) (k' : κ) : ∀ kvs : List (κ × α), lookD (putD kvs k v) k' = if k = k' then some v else lookD kvs k' := by
  intro kvs
  induction kvs with
  | nil =>
    show lookD [(k, v)] k' = _
    unfold lookD
    by_cases h : k = k' <;> simp [h]
  | cons a r ih =>
    obtain ⟨k2, u⟩ := a
    show lookD (if k2 = k then (k2, v) :: r else (k2, u) :: putD r k v) k' = _
    by_cases h : k2 = k
    · rw [if_pos h]
      subst h
      unfold lookD
      by_cases z : k2 = k' <;> simp [z]
    · rw [if_neg h]
      by_cases z : k2 = k'
      · have z2 : ¬ k = k' := fun e => h (z.trans e.symm)
        unfold lookD
        simp [z, z2]
      · have e : ∀ l : List (κ × α), lookD ((k2, u) :: l) k' = lookD l k' := fun l => by unfold lookD; simp [z]
        rw [e, e, ih]
/-- {key: value for each}: what stands in it afterwards -/
theorem u_dcMap {β : Type} {xs : List β} {f : β → PV} (kf : β → Key) (vf : β → PV) {q : PV → En → (En → Prop) → Prop} {pk pv : PX PV} {vs : List Nat} {ρ : En} {post : Vl → Prop}
    (h : ∀ (i : Nat) x (R : Key → PV → Prop), xs[i]? = some x → R (kf x) (vf x) → q (f x) (wipeN ρ vs) fun ρ2 => pk ρ2 fun y => pv ρ2 fun z => ∃ k, keyOf y = some k ∧ R k z)
    (fin : ∀ kvs : List (Key × PV), (kvs.map (·.1)).Nodup → kvs.length ≤ xs.length → (∀ k, lookD kvs k = (xs.reverse.find? fun x => decide (kf x = k)).map vf) → post (.oK kvs)) : dcQ q pYes pk pv vs ρ post (xs.map f) := by
  refine ⟨fun i kvs => (kvs.map (·.1)).Nodup ∧ ∀ k, lookD kvs k = ((xs.take i).reverse.find? fun x => decide (kf x = k)).map vf, ⟨List.nodup_nil, fun k => rfl⟩, fun i d kvs e hl hI => ?_, fun kvs hl hI => fin kvs hI.1 (by rwa [List.length_map] at hl) (by have := hI.2; rwa [List.length_map, List.take_length] at this)⟩
  rw [List.getElem?_map] at e
  obtain ⟨x, e1, rfl⟩ := Option.map_eq_some_iff.mp e
  have := h i x (fun k z => (kvs.map (·.1)).Nodup ∧ ((putD kvs k z).map (·.1)).Nodup ∧ ∀ k', lookD (putD kvs k z) k' = ((xs.take (i + 1)).reverse.find? fun x => decide (kf x = k')).map vf) e1 ⟨hI.1, putD_nd hI.1, fun k' => ?_⟩
  · exact this
  · rw [look_put, List.take_succ, e1]
    simp only [Option.toList_some, List.reverse_append, List.reverse_singleton, List.singleton_append, List.find?_cons]
    by_cases z : kf x = k'
    · simp [z]
    · simp [z, hI.2 k']
end
/-! ## x = {.. for ..} on one row -/
section
variable {X : Cx} {i : Nat} {y : Str} {py : Pos} {kx elt tg iter : Expr} {ifs : List Expr} {scope : Scope} {own : List (Str × Nat)} {pos spos : Pos} {wi : TI} {g : TG} {tt : TT} {tk te : TE}
theorem sw_dc {env : Env} {l : Nat} (e1 : env.scope.kind = .function) (e2 : env.scope.names.lookup y = some .local) (e3 : (py.line == pos.line) = true) (e4 : (scope.names.any fun (m, k) => m == y && (k == .local || k == .cell)) = false) {gs : List Comprehension} :
    swapsWith (.DictComp kx elt gs scope pos) (some (.Name y py)) l env = pure true := by
  have e5 : env.kindOf y = some .local := e2
  have e6 : env.blockKind = .function := by unfold Env.blockKind; rw [e1]; rfl
  unfold swapsWith
  simp only [e6, e5, e4, Expr.pos, e3]
  rfl
theorem ps_setDc (calm : X.calm = true) (nd : X.N.Nodup) (iy : X.N[i]? = some y) (ly : X.env.scope.names.lookup y = some .local) (sw : swapsWith (.DictComp kx elt [⟨tg, iter, ifs, 0⟩] scope pos) (some (.Name y py)) spos.line X.env = pure true)
    (pi : PI X tg iter wi) (blk : BlkOk X.N X.env.scope scope own)
    (pg : ∀ (z : Shared) (H : Hp) (C : Addr) (cl : List (Str × Addr)) (fp : List Addr), PG (X.blk z H scope (compEnvC scope cl C X.env) fp) tg g) (pt : ∀ (z : Shared) (H : Hp) (C : Addr) (cl : List (Str × Addr)) (fp : List Addr), PTs (X.blk z H scope (compEnvC scope cl C X.env) fp) ifs tt)
    (pk : ∀ (z : Shared) (H : Hp) (C : Addr) (cl : List (Str × Addr)) (fp : List Addr), PE (X.blk z H scope (compEnvC scope cl C X.env) fp) kx tk) (pv : ∀ (z : Shared) (H : Hp) (C : Addr) (cl : List (Str × Addr)) (fp : List Addr), PE (X.blk z H scope (compEnvC scope cl C X.env) fp) elt te)
    (fo : ∀ x, foldedSetIterable iter X.env x = pure x := by intro _; rfl) : PS X (.Assign [.Name y py] (.DictComp kx elt [⟨tg, iter, ifs, 0⟩] scope pos) spos) (tAsg (tDc wi g tt tk te (own.map (·.2))) (gName i)) := by
  refine ⟨fun pins z0 τ H D inv hyp => ?_⟩
  rw [exec_Assign_Name_used _ _ _ _ sw]
  refine wpAny_bind (wpAny_standAt (wpAny_bind ?_))
  show wpAny _ X.A (do let _ ← comprehension (.DictComp kx elt [⟨tg, iter, ifs, 0⟩] scope pos) scope X.env (firstIterPos [⟨tg, iter, ifs, 0⟩] pos) newDict false (eval iter X.env) (some (assign (.Name y py) X.env))) _ _ z0
  have hyp : tDc wi g tt tk te (own.map (·.2)) τ H (fun x H1 => gName i x τ H1 D.nx) := hyp
  refine wpAny_bind (thn (dc_core (Qf := fun _ z => SP X pins D .next z) calm nd inv pi blk pg pt pk pv fo hyp fun L C z1 m1 H1 inv1 q1 ns1 ff => ?_) fun _ z2 q2 => wpAny_pure (wpAny_pure q2))
  obtain ⟨g0, g1, g2, g3, g4, g5⟩ := ff
  show wpAny _ _ (assign (.Name y py) X.env (.ref L)) _ _ _
  refine wpAny_assign_Name (store_ok2 (v := V.ref L) inv1 nd iy (.inl ly) rfl (fun z2 inv2 ⟨p, same, hp⟩ => ?_) (.inr ly))
  have far : C ≠ p := hp.elim (fun e => by rw [e]; exact g1) fun e eq => g4 y p e eq.symm
  exact ⟨m1, ns1.sameBut same far, fun h3 same3 => ⟨_, H1, inv2.turned (t' := z2.toks) (fun b o hb e => (same3.2 b hb).trans e) g0 g1 g3 g4 g5, q1⟩⟩
end
section
variable {K : PySem.W.Frag} {PO : POk} {X : Cx} {W : WX} {i : Nat} {y : Str} {py : Pos} {kx elt tg iter : Expr} {ifs : List Expr} {scope : Scope} {own : List (Str × Nat)} {pos spos : Pos} {wi : TI} {g : TG} {tt : TT} {tk te : TE} {src : PX (List PV)} {ws : List Nat} {q : PV → En → (En → Prop) → Prop} {pt : PX Bool} {pk pe : PX PV}
theorem qs_setDc (hc : X.calm = true) (hN : X.N.Nodup) (hy : X.N[i]? = some y) (hyl : X.env.scope.names.lookup y = some .local) (hsw : swapsWith (.DictComp kx elt [⟨tg, iter, ifs, 0⟩] scope pos) (some (.Name y py)) spos.line X.env = pure true) (hi : QIc K PO X tg iter wi src) (ok : BlkOk X.N X.env.scope scope own)
    (hg : ∀ (s : Shared) (H : Hp) (C : Addr) (cl : List (Str × Addr)) (fp : List Addr), QG K PO (X.blk s H scope (compEnvC scope cl C X.env) fp) tg g ws q) (ht : ∀ (s : Shared) (H : Hp) (C : Addr) (cl : List (Str × Addr)) (fp : List Addr), QTs K PO (X.blk s H scope (compEnvC scope cl C X.env) fp) ifs tt pt)
    (hk : ∀ (s : Shared) (H : Hp) (C : Addr) (cl : List (Str × Addr)) (fp : List Addr), QX rS K PO (X.blk s H scope (compEnvC scope cl C X.env) fp) kx tk pk) (he : ∀ (s : Shared) (H : Hp) (C : Addr) (cl : List (Str × Addr)) (fp : List Addr), QX rS K PO (X.blk s H scope (compEnvC scope cl C X.env) fp) elt te pe) (hw : ∀ j ∈ ws, j ∈ own.map (·.2)) (hs : ∀ x, foldedSetIterable iter X.env x = pure x := by intro _; rfl) :
    QS K PO W X (.Assign [.Name y py] (.DictComp kx elt [⟨tg, iter, ifs, 0⟩] scope pos) spos) (tAsg (tDc wi g tt tk te (own.map (·.2))) (gName i)) (pSet i (pNw (pDc src q pt pk pe (own.map (·.2))))) := by
  have so : SO K PO (tDc wi g tt tk te (own.map (·.2))) (pDc src q pt pk pe (own.map (·.2))) := so_dc hw hi.sd (hg X.s_0 X.H_0 0 [] []).sd (ht X.s_0 X.H_0 0 [] []).sd (hk X.s_0 X.H_0 0 [] []).sd (he X.s_0 X.H_0 0 [] []).sd
  have sm : SM K PO (tDc wi g tt tk te (own.map (·.2))) (pNw (pDc src q pt pk pe (own.map (·.2)))) := fun {B G0 G H pl σ ρ Q post} r hp hq => so (post := fun vl => post vl ρ) r hp fun v vl A G' H' pl' s hd nd n hpost => hq v vl _ G' H' pl' s.g s.le (r.push s hd nd n) hpost
  exact ⟨ps_setDc hc hN hy hyl hsw hi.pe ok (fun s H C cl fp => (hg s H C cl fp).pe) (fun s H C cl fp => (ht s H C cl fp).pe) (fun s H C cl fp => (hk s H C cl fp).pe) (fun s H C cl fp => (he s H C cl fp).pe) hs, ss_set (te := tDc wi g tt tk te (own.map (·.2))) (p := pNw (pDc src q pt pk pe (own.map (·.2)))) sm⟩
theorem qs_setDcS (hc : X.calm = true) (hN : X.N.Nodup) (hy : X.N[i]? = some y) (hyl : X.env.scope.names.lookup y = some .local) (hsw : swapsWith (.DictComp kx elt [⟨tg, iter, ifs, 0⟩] scope pos) (some (.Name y py)) spos.line X.env = pure true) (hi : QIc K PO X tg iter wi src) (ok : BlkOk X.N X.env.scope scope own)
    (hg : ∀ (s : Shared) (H : Hp) (C : Addr) (cl : List (Str × Addr)) (fp : List Addr), QG K PO (X.blk s H scope (compEnvC scope cl C X.env) fp) tg g ws q) (ht : ∀ (s : Shared) (H : Hp) (C : Addr) (cl : List (Str × Addr)) (fp : List Addr), QTs K PO (X.blk s H scope (compEnvC scope cl C X.env) fp) ifs tt pt)
    (hk : ∀ (s : Shared) (H : Hp) (C : Addr) (cl : List (Str × Addr)) (fp : List Addr), QX rS K PO (X.blk s H scope (compEnvC scope cl C X.env) fp) kx tk pk) (he : ∀ (s : Shared) (H : Hp) (C : Addr) (cl : List (Str × Addr)) (fp : List Addr), QX rS K PO (X.blk s H scope (compEnvC scope cl C X.env) fp) elt te pe) (hw : ∀ j ∈ ws, j ∈ own.map (·.2)) (hs : ∀ x, foldedSetIterable iter X.env x = pure x := by intro _; rfl) :
    QS K PO W X (.Assign [.Name y py] (.DictComp kx elt [⟨tg, iter, ifs, 0⟩] scope pos) spos) (tAsg (tDc wi g tt tk te (own.map (·.2))) (gName i)) (pSet i (pSh (pFz (pDc src q pt pk pe (own.map (·.2)))))) := by
  have so : SO K PO (tDc wi g tt tk te (own.map (·.2))) (pDc src q pt pk pe (own.map (·.2))) := so_dc hw hi.sd (hg X.s_0 X.H_0 0 [] []).sd (ht X.s_0 X.H_0 0 [] []).sd (hk X.s_0 X.H_0 0 [] []).sd (he X.s_0 X.H_0 0 [] []).sd
  refine ⟨ps_setDc hc hN hy hyl hsw hi.pe ok (fun s H C cl fp => (hg s H C cl fp).pe) (fun s H C cl fp => (ht s H C cl fp).pe) (fun s H C cl fp => (hk s H C cl fp).pe) (fun s H C cl fp => (he s H C cl fp).pe) hs, ?_⟩
  have sm : SM K PO (tDc wi g tt tk te (own.map (·.2))) (pSh (pFz (pDc src q pt pk pe (own.map (·.2))))) := fun {B G0 G H pl σ ρ Q post} r hp hq => so (post := fun vl => post (.sh vl.frz) ρ) r hp fun v vl A G' H' pl' s hd nd n hpost => by
    have s2 := s.freeze n
    exact hq v (.sh vl.frz) _ _ H' pl' s2.g s2.le ((r.step s2).pushS (hd.freeze fun a ha => (n a ha).2.1)) hpost
  exact fun {B G0 G H pl σ ρ D P} r e hp => ss_set (te := tDc wi g tt tk te (own.map (·.2))) (p := pSh (pFz (pDc src q pt pk pe (own.map (·.2))))) sm r e hp
end
/-! ## isinstance of the error that a suite holds -/
/-- what the class says, so that isinstance asks its instances rightly -/
structure IsC (K : PySem.W.Frag) (C : Addr) : Prop where
  cl : (PySem.W.clsIn K C).isSome = true
  ga : PySem.W.findIn K (.ref C) "__getattribute__" = some (some (.builtin "BaseException.__getattribute__"))
  gt : PySem.W.findIn K (.ref C) "__getattr__" = some none
  sb : PySem.W.subIn K (.ref C) (.type "BaseException") = some true
  cc : PySem.W.findIn K (.ref C) "__class__" = some (some (.builtin "object.__class__"))
  ge : PySem.W.specialIn K (.builtin "object.__class__") "__get__" = some (some (.builtin "getset_descriptor.__get__"))
  tk : PySem.W.takesIn K (.builtin "object.__class__") = some true
  mo : PySem.W.mroIn K C (.type "object") = some true
def rIsX (K : PySem.W.Frag) (C a : Addr) (cls : Value) (d : Option Addr) : List V → Hp → VK → Prop := fun xs H Q => cls = .ref C ∧ ∃ (dd : Addr) (c : V) (u : Value) (b : Bool) (fs : List (Str × V)), d = some dd ∧ xs = [.ref a, c] ∧ ClsV c u ∧ H dd = some (.xd fs) ∧ PySem.W.kitOne K (.ref C) u = some b ∧ Q (.bl b) H
def rIsXT (K : PySem.W.Frag) (C a : Addr) (cls : Value) (d : Option Addr) : List V → Hp → VK → Prop := fun xs H Q => cls = .ref C ∧ ∃ (dd tp : Addr) (cs : List V) (us : List Value) (b : Bool) (fs : List (Str × V)), d = some dd ∧ xs = [.ref a, .ref tp] ∧ H tp = some (.tup cs) ∧ Paired ClsV cs us ∧ H dd = some (.xd fs) ∧ PySem.W.kitAny K (.ref C) us = some b ∧ Q (.bl b) H
section
variable {X : Cx} {a C dd : Addr} {oe : Obj} {pn : List (Addr × Obj)}
theorem inst_of {pins : List (Addr × Obj)} {σ : L2.St} {H : Hp} {s : Shared} {fs : List (Str × V)} (hz : Zc (.ref C) (some dd) oe) (hf : ∃ vs, oe.data = .fields vs) (I : Inv (X.suite a ((a, oe) :: pn)) pins σ H s) (ed : H dd = some (.xd fs)) : ∃ od, PySem.W.InstAt s.heap a oe C (some od) := by
  obtain ⟨ha, _⟩ := I.pin (a, oe) (List.mem_append_left _ List.mem_cons_self)
  obtain ⟨vs, hd⟩ := hf
  have hx : ObjOk (X.suite a ((a, oe) :: pn)).prog (X.suite a ((a, oe) :: pn)).w H s.heap dd (.xd fs) := I.hok dd _ ed
  obtain ⟨mA, hns, _⟩ := hx
  obtain ⟨od, ho, _⟩ := lookIn_ns hns
  exact ⟨od, ha, hz.1, by unfold PySem.W.notCls; rw [hd] <;> rfl, by rw [hz.2]; exact ho⟩
theorem call_isX {cls : Value} {d : Option Addr} (c : IsC X.K C) (hz : Zc cls d oe) (hf : ∃ vs, oe.data = .fields vs) : CallR (X.suite a ((a, oe) :: pn)) (.builtin "isinstance") (rIsX X.K C a cls d) := by
  intro pins s σ H xs us Q I r h
  obtain ⟨rfl, dd, cv, u, b, fs, rfl, rfl, k, ed, e, q⟩ := h
  obtain ⟨u1, u2, rfl, r1, r2⟩ := vals2 r
  have e2 := k.eq r2
  subst e2
  cases (show u1 = Value.ref a from r1)
  obtain ⟨od, J⟩ := inst_of hz hf I ed
  exact PySem.W.kia_one (PySem.W.kitx_exc c.cl c.ga c.gt c.sb c.cc c.ge c.tk c.mo) I.kIn J e (fun z => nomatch z) fun tk => ⟨.bl b, H, I.tok tk, rfl, q⟩
theorem call_isXT {cls : Value} {d : Option Addr} (c : IsC X.K C) (hz : Zc cls d oe) (hf : ∃ vs, oe.data = .fields vs) : CallR (X.suite a ((a, oe) :: pn)) (.builtin "isinstance") (rIsXT X.K C a cls d) := by
  intro pins s σ H xs us Q I r h
  obtain ⟨rfl, dd, tp, cs, ws, b, fs, rfl, rfl, hT, k, ed, e, q⟩ := h
  obtain ⟨u1, u2, rfl, r1, r2⟩ := vals2 r
  cases (show u1 = Value.ref a from r1)
  cases (show u2 = Value.ref tp from r2)
  obtain ⟨od, J⟩ := inst_of hz hf I ed
  obtain ⟨_, its, rv, o, h1, h2, n, h3⟩ := (show ObjOk (X.suite a ((a, oe) :: pn)).prog (X.suite a ((a, oe) :: pn)).w H s.heap tp (.tup cs) from I.hok tp _ hT)
  have e3 := ClsV.all k rv
  subst e3
  obtain ⟨oc, od', dt, sl⟩ := o
  simp only at h2 h3
  subst h2 h3
  exact PySem.W.kia_tup (PySem.W.kitx_exc c.cl c.ga c.gt c.sb c.cc c.ge c.tk c.mo) I.kIn J h1 e (fun z => nomatch z) fun tk => ⟨.bl b, H, I.tok tk, rfl, q⟩
end
section
variable {K : PySem.W.Frag} {PO : POk} {X : Cx}
/-- an own class by its name -/
theorem qe_cls {x : Str} {C : Addr} {pos : Pos} (hg : Gl X x) (hm : X.mg x = some (.ref C)) (hd : (x == ("__debug__" : Str)) = false := by decide) : QX rS K PO X (.Name x pos) (tC (.ref C)) (pC (.obj C)) := qe_glob (.obj C) (fun _ _ _ => Rs.obj) hg hm rfl hd
def clsP : PV → Option Value
  | .obj C => some (.ref C)
  | .ty n => some (.type n)
  | _ => none
theorem clsP_ok {pl : PL} {G : Hp} {y : PV} {v : V} {u : Value} (h : Rs K pl G y v) (e : clsP y = some u) : ClsV v u := by
  cases y <;> simp only [clsP, Option.some.injEq, reduceCtorEq] at e
  · subst e; rw [rs_ty h]; exact .ty _
  · subst e; rw [rs_obj h]; exact .own _
theorem clsPs_ok {pl : PL} {G : Hp} : ∀ {ys : List PV} {vs : List V} {us : List Value}, Rl K pl G ys vs → ys.map clsP = us.map some → Paired ClsV vs us := by
  intro ys
  induction ys with
  | nil =>
    intro vs us h e
    rw [rl_nil h]
    cases us with
    | nil => exact .nil
    | cons _ _ => cases e
  | cons y ys ih =>
    intro vs us h e
    obtain ⟨v, r, rfl, h1, h2⟩ := rl_cons h
    cases us with
    | nil => cases e
    | cons u us =>
      rw [List.map_cons, List.map_cons, List.cons.injEq] at e
      exact .cons (clsP_ok h1 e.1) (ih h2 e.2)
def pIsX (i : Nat) (a : Addr) (cls : Value) (d : Option Addr) (C : Addr) (K : PySem.W.Frag) (p : PX PV) : PX PV := fun ρ post => ∃ e dd, ρ[i]? = some (some (.er e a dd)) ∧ cls = .ref C ∧ d = some dd ∧ p ρ fun y => ∃ u b, clsP y = some u ∧ PySem.W.kitOne K (.ref C) u = some b ∧ post (.bl b)
def pIsXT (i : Nat) (a : Addr) (cls : Value) (d : Option Addr) (C : Addr) (K : PySem.W.Frag) (p : PX PV) : PX PV := fun ρ post => ∃ e dd, ρ[i]? = some (some (.er e a dd)) ∧ cls = .ref C ∧ d = some dd ∧ p ρ fun y => ∃ ys us b, y = .tup ys ∧ ys.map clsP = us.map some ∧ PySem.W.kitAny K (.ref C) us = some b ∧ post (.bl b)
theorem qe_isX {i : Nat} {a C : Addr} {oe : Obj} {cls : Value} {d : Option Addr} {pn : List (Addr × Obj)} {e c : Expr} {p0 pos : Pos} {tc : TE} {pc : PX PV} (hK : X.K = K) (T : IsC X.K C) (hz : Zc cls d oe) (hf : ∃ vs, oe.data = .fields vs) (hm : (X.suite a ((a, oe) :: pn)).mg "isinstance" = none) (he : PE (X.suite a ((a, oe) :: pn)) e (tVar i)) (hc : QX rS K PO (X.suite a ((a, oe) :: pn)) c tc pc) (hg : Gl (X.suite a ((a, oe) :: pn)) "isinstance" := by rfl)
    (hs : starEach (e :: [c]) (X.suite a ((a, oe) :: pn)).env = (false, eval e (X.suite a ((a, oe) :: pn)).env) :: starEach [c] (X.suite a ((a, oe) :: pn)).env := by rfl) (hs2 : starEach (c :: []) (X.suite a ((a, oe) :: pn)).env = (false, eval c (X.suite a ((a, oe) :: pn)).env) :: starEach [] (X.suite a ((a, oe) :: pn)).env := by rfl) (hpl : (backTo pos (starEach [c] (X.suite a ((a, oe) :: pn)).env)).any (·.1) = false := by rfl) :
    QX rS K PO (X.suite a ((a, oe) :: pn)) (.Call (.Name "isinstance" p0) [e, c] [] pos) (tCB (rIsX X.K C a cls d) (tCons (tVar i) (tCons tc tNil))) (pIsX i a cls d C K pc) := by
  subst hK
  refine ⟨pe_callB (call_isX T hz hf) hg hm (by decide +kernel) (pa_cons he (pa_cons hc.pe pa_nil hs2) hs) (by decide) (by decide) hs hpl, fun {B G0 G H pl σ ρ Q post} r hp hq => ?_⟩
  obtain ⟨er, dd, e1, e2, e3, hp⟩ := hp
  obtain ⟨x, A, g1, ⟨_, rfl, xs, g2, g3⟩, _⟩ := r.var e1
  refine ⟨_, g1, hc.sd r hp fun v y G1 H1 pl1 s1 hy hp1 => ?_⟩
  obtain ⟨u, b, k1, k2, k3⟩ := hp1
  exact ⟨e2, dd, v, u, b, xs, e3, rfl, clsP_ok hy k1, s1.ok.sub _ _ (s1.g _ _ g2), k2, hq _ (.bl b) G1 H1 pl1 s1 (show Rs X.K pl1 G1 _ _ from Rs.bl) k3⟩
theorem qe_isXT {i : Nat} {a C : Addr} {oe : Obj} {cls : Value} {d : Option Addr} {pn : List (Addr × Obj)} {e c : Expr} {p0 pos : Pos} {tc : TE} {pc : PX PV} (hK : X.K = K) (T : IsC X.K C) (hz : Zc cls d oe) (hf : ∃ vs, oe.data = .fields vs) (hm : (X.suite a ((a, oe) :: pn)).mg "isinstance" = none) (he : PE (X.suite a ((a, oe) :: pn)) e (tVar i)) (hc : QX rS K PO (X.suite a ((a, oe) :: pn)) c tc pc) (hg : Gl (X.suite a ((a, oe) :: pn)) "isinstance" := by rfl)
    (hs : starEach (e :: [c]) (X.suite a ((a, oe) :: pn)).env = (false, eval e (X.suite a ((a, oe) :: pn)).env) :: starEach [c] (X.suite a ((a, oe) :: pn)).env := by rfl) (hs2 : starEach (c :: []) (X.suite a ((a, oe) :: pn)).env = (false, eval c (X.suite a ((a, oe) :: pn)).env) :: starEach [] (X.suite a ((a, oe) :: pn)).env := by rfl) (hpl : (backTo pos (starEach [c] (X.suite a ((a, oe) :: pn)).env)).any (·.1) = false := by rfl) :
    QX rS K PO (X.suite a ((a, oe) :: pn)) (.Call (.Name "isinstance" p0) [e, c] [] pos) (tCB (rIsXT X.K C a cls d) (tCons (tVar i) (tCons tc tNil))) (pIsXT i a cls d C K pc) := by
  subst hK
  refine ⟨pe_callB (call_isXT T hz hf) hg hm (by decide +kernel) (pa_cons he (pa_cons hc.pe pa_nil hs2) hs) (by decide) (by decide) hs hpl, fun {B G0 G H pl σ ρ Q post} r hp hq => ?_⟩
  obtain ⟨er, dd, e1, e2, e3, hp⟩ := hp
  obtain ⟨x, A, g1, ⟨_, rfl, xs, g2, g3⟩, _⟩ := r.var e1
  refine ⟨_, g1, hc.sd r hp fun v y G1 H1 pl1 s1 hy hp1 => ?_⟩
  obtain ⟨ys, us, b, rfl, k1, k2, k3⟩ := hp1
  obtain ⟨tp, vs, rfl, w1, w2, _⟩ := rs_tupH (K := X.K) (pl := pl1) (G := G1) hy
  exact ⟨e2, dd, tp, vs, us, b, xs, e3, rfl, s1.ok.sub _ _ w1, clsPs_ok w2 k1, s1.ok.sub _ _ (s1.g _ _ g2), k2, hq _ (.bl b) G1 H1 pl1 s1 (show Rs X.K pl1 G1 _ _ from Rs.bl) k3⟩
theorem u_isX {i : Nat} {a C dd : Addr} {cls : Value} {d : Option Addr} {e : Er} {p : PX PV} {ρ : En} {post : PV → Prop} (h1 : ρ[i]? = some (some (.er e a dd))) (h2 : cls = .ref C) (h3 : d = some dd) (h : p ρ fun y => ∃ u b, clsP y = some u ∧ PySem.W.kitOne K (.ref C) u = some b ∧ post (.bl b)) : pIsX i a cls d C K p ρ post := ⟨e, dd, h1, h2, h3, h⟩
theorem u_isXT {i : Nat} {a C dd : Addr} {cls : Value} {d : Option Addr} {e : Er} {p : PX PV} {ρ : En} {post : PV → Prop} (h1 : ρ[i]? = some (some (.er e a dd))) (h2 : cls = .ref C) (h3 : d = some dd) (h : p ρ fun y => ∃ ys us b, y = .tup ys ∧ ys.map clsP = us.map some ∧ PySem.W.kitAny K (.ref C) us = some b ∧ post (.bl b)) : pIsXT i a cls d C K p ρ post := ⟨e, dd, h1, h2, h3, h⟩
end
section
variable {K : PySem.W.Frag} {PO : POk} {X : Cx}
/-! ## lower, upper of letters, told exactly -/
theorem placed_map {l : List Nat} {f : Nat → Nat → List Nat} {g : Nat → Nat} (h : ∀ i c, l[i]? = some c → f i c = [g c]) : (PySem.placed (S l) f).toList = l.map g := by
  unfold PySem.placed
  have e : (Array.mapIdx (fun i c => (f i c).toArray) (S l).cps) = (l.map fun c => #[g c]).toArray := by
    apply Array.ext
    · simp
    · intro i h1 h2
      have hi : i < l.length := by simpa using h2
      simp [h i l[i] (List.getElem?_eq_getElem hi)]
  rw [e]
  clear e h
  induction l with
  | nil => rfl
  | cons c l ih => simp_all
abbrev upC (c : Nat) : Nat := if 97 ≤ c ∧ c ≤ 122 then c - 32 else c
abbrev loC (c : Nat) : Nat := if 65 ≤ c ∧ c ≤ 90 then c + 32 else c
theorem upper_is : ∀ c ∈ alphaU, Unicode.upperOf c = [upC c] := by decide +kernel
theorem lower_is : ∀ c ∈ alphaU, Unicode.lowerOf c = [loC c] := by decide +kernel
theorem not_sigma : ∀ c ∈ alphaU, (c == 0x3A3) = false := by decide +kernel
def zUpX : V → List V → Hp → VK → Prop := fun x xs H Q => ∃ l : List Nat, x = vS l ∧ xs = [] ∧ l.length ≤ 100000 ∧ (∀ c ∈ l, c ∈ alphaU) ∧ Q (vS (l.map upC)) H
def zLoX : V → List V → Hp → VK → Prop := fun x xs H Q => ∃ l : List Nat, x = vS l ∧ xs = [] ∧ l.length ≤ 100000 ∧ (∀ c ∈ l, c ∈ alphaU) ∧ Q (vS (l.map loC)) H
theorem mt_upX : MtR X "str.upper" zUpX := by
  intro pins s σ H xs xs' v us Q I rx rs h
  obtain ⟨l, rfl, rfl, hz, hl, q⟩ := h
  refine mt_upper pins s σ H _ _ v us Q I rx rs ⟨S l, rfl, rfl, by rw [S_len]; omega, ?_⟩
  have e : Txt.upper (S l) = S (l.map upC) := by
    show Str.mk _ = _
    rw [← placed_map (f := fun _ c => Unicode.upperOf c) fun i c hc => upper_is c (hl c (List.mem_of_getElem? hc))]
  rw [e]
  exact q
theorem mt_loX : MtR X "str.lower" zLoX := by
  intro pins s σ H xs xs' v us Q I rx rs h
  obtain ⟨l, rfl, rfl, hz, hl, q⟩ := h
  refine mt_lower pins s σ H _ _ v us Q I rx rs ⟨S l, rfl, rfl, by rw [S_len]; omega, ?_⟩
  have e : Txt.lower (S l) = S (l.map loC) := by
    show Str.mk _ = _
    rw [← placed_map (f := fun i _ => Unicode.lowerAt (S l).cps i) fun i c hc => ?_]
    have hm := hl c (List.mem_of_getElem? hc)
    unfold Unicode.lowerAt
    have hc' : (S l).cps[i]? = some c := by simpa using hc
    rw [hc']
    show (if (c == 0x3A3 && _) = true then _ else _) = _
    rw [not_sigma c hm, Bool.false_and, if_neg Bool.false_ne_true]
    exact lower_is c hm
  rw [e]
  exact q
def fMapT (g : Nat → Nat) : List Nat → (PV → Prop) → Prop := fun l post => l.length ≤ 100000 ∧ (∀ c ∈ l, c ∈ alphaU) ∧ post (.str (l.map g))
theorem sm_upX : SM0 K PO zUpX (fMapT upC) := fun {G H pl l Q post} o hl hf hq => by
  obtain ⟨h1, h2, hp⟩ := hf
  exact ⟨l, rfl, rfl, h1, h2, hq _ (.str _) G H pl (Stp.refl o) (Rs.str (by rw [List.length_map]; exact hl)) hp⟩
theorem sm_loX : SM0 K PO zLoX (fMapT loC) := fun {G H pl l Q post} o hl hf hq => by
  obtain ⟨h1, h2, hp⟩ := hf
  exact ⟨l, rfl, rfl, h1, h2, hq _ (.str _) G H pl (Stp.refl o) (Rs.str (by rw [List.length_map]; exact hl)) hp⟩
theorem u_mapT {g : Nat → Nat} {l : List Nat} {post : PV → Prop} (h1 : l.length ≤ 100000) (h2 : ∀ c ∈ l, c ∈ alphaU) (h : post (.str (l.map g))) : fMapT g l post := ⟨h1, h2, h⟩
/-! ## a tuple or a list -/
theorem qq_a {e : Expr} {t : TE} {p : PX PV} (h : QX rS K PO X e t p) : QX rQ K PO X e t (pOfA p) :=
  ⟨h.pe, fun r hp hq => h.sd r hp fun v d G' H' pl' s hd hpost => by
    obtain ⟨ds, rfl | rfl, hpost⟩ := hpost
    · obtain ⟨a, xs, rfl, h1, h2, h3⟩ := rs_tup (K := K) (pl := pl') (G := G') hd
      exact hq _ ds G' H' pl' s ⟨a, xs, rfl, .inr h1, h2, h3⟩ hpost
    · obtain ⟨a, xs, rfl, h1, h2, h3⟩ := rs_lst (K := K) (pl := pl') (G := G') hd
      exact hq _ ds G' H' pl' s ⟨a, xs, rfl, .inl ⟨s.ok.sub _ _ h1, fun q => (by rw [s.ok.free a q] at h1; cases h1)⟩, h2, h3⟩ hpost⟩
def asA (d : PV) (post : List PV → Prop) : Prop := ∃ ds, (d = .tup ds ∨ d = .lst ds) ∧ post ds
theorem u_ofA {p : PX PV} {ρ : En} {post : List PV → Prop} (h : p ρ fun d => asA d post) : pOfA p ρ post := h
theorem u_asAT {ds : List PV} {post : List PV → Prop} (h : post ds) : asA (.tup ds) post := ⟨ds, .inl rfl, h⟩
theorem u_asAL {ds : List PV} {post : List PV → Prop} (h : post ds) : asA (.lst ds) post := ⟨ds, .inr rfl, h⟩
theorem qe_gint {x : Str} {i : Int} {pos : Pos} (hg : Gl X x) (hm : ∃ t, X.mg x = some (.int i t)) (hd : (x == ("__debug__" : Str)) = false := by decide) : QX rS K PO X (.Name x pos) (tC (.int i)) (pC (.int i)) := by
  obtain ⟨t, h⟩ := hm
  exact qe_glob (.int i) (fun _ _ _ => Rs.int) hg h ⟨t, rfl⟩ hd
theorem qe_gstr {x : Str} {l : List Nat} {pos : Pos} (hl : l.length ≤ 16777216) (hg : Gl X x) (hm : ∃ t, X.mg x = some (.str (S l) t)) (hd : (x == ("__debug__" : Str)) = false := by decide) : QX rS K PO X (.Name x pos) (tC (vS l)) (pC (.str l)) := by
  obtain ⟨t, h⟩ := hm
  exact qe_glob (.str l) (fun _ _ _ => Rs.str hl) hg h ⟨t, rfl⟩ hd
end
theorem kit_self {K : PySem.W.Frag} {c : Value} : PySem.W.kitOne K c c = some true := by
  unfold PySem.W.kitOne
  rw [if_pos (by simp)]
theorem u_isiIT {post : PV → Prop} {x : Int} (h : post (.bl false)) : fIsi [.int x, .ty "tuple"] post := u_isiI rfl h
theorem u_isiIL {post : PV → Prop} {x : Int} (h : post (.bl false)) : fIsi [.int x, .ty "list"] post := u_isiI rfl h
theorem u_isiSB {post : PV → Prop} {l : List Nat} (h : post (.bl false)) : fIsi [.str l, .ty "bool"] post := u_isiS rfl h
theorem u_isiST {post : PV → Prop} {l : List Nat} (h : post (.bl false)) : fIsi [.str l, .ty "tuple"] post := u_isiS rfl h
theorem u_isiSL {post : PV → Prop} {l : List Nat} (h : post (.bl false)) : fIsi [.str l, .ty "list"] post := u_isiS rfl h
theorem u_isiTI {post : PV → Prop} {ds : List PV} (h : post (.bl false)) : fIsi [.tup ds, .ty "int"] post := u_isiT rfl h
theorem u_isiTB {post : PV → Prop} {ds : List PV} (h : post (.bl false)) : fIsi [.tup ds, .ty "bool"] post := u_isiT rfl h
theorem u_isiTS {post : PV → Prop} {ds : List PV} (h : post (.bl false)) : fIsi [.tup ds, .ty "str"] post := u_isiT rfl h
theorem u_isiLI {post : PV → Prop} {ds : List PV} (h : post (.bl false)) : fIsi [.lst ds, .ty "int"] post := u_isiL rfl h
theorem u_isiLB {post : PV → Prop} {ds : List PV} (h : post (.bl false)) : fIsi [.lst ds, .ty "bool"] post := u_isiL rfl h
theorem u_isiLS {post : PV → Prop} {ds : List PV} (h : post (.bl false)) : fIsi [.lst ds, .ty "str"] post := u_isiL rfl h
theorem u_isiBS {post : PV → Prop} {b : Bool} (h : post (.bl false)) : fIsi [.bl b, .ty "str"] post := u_isiB rfl h
theorem u_isiBT {post : PV → Prop} {b : Bool} (h : post (.bl false)) : fIsi [.bl b, .ty "tuple"] post := u_isiB rfl h
theorem u_isiBL {post : PV → Prop} {b : Bool} (h : post (.bl false)) : fIsi [.bl b, .ty "list"] post := u_isiB rfl h
theorem u_isiNI {post : PV → Prop}  (h : post (.bl false)) : fIsi [.non, .ty "int"] post := u_isiN rfl h
theorem u_isiNB {post : PV → Prop}  (h : post (.bl false)) : fIsi [.non, .ty "bool"] post := u_isiN rfl h
theorem u_isiNS {post : PV → Prop}  (h : post (.bl false)) : fIsi [.non, .ty "str"] post := u_isiN rfl h
theorem u_isiNT {post : PV → Prop}  (h : post (.bl false)) : fIsi [.non, .ty "tuple"] post := u_isiN rfl h
theorem u_isiNL {post : PV → Prop}  (h : post (.bl false)) : fIsi [.non, .ty "list"] post := u_isiN rfl h
/-! ## several classes at once -/
theorem err_at {K : PySem.W.Frag} {h : Heap} {mg : Str → Option Value} {x q : Str} {st : Stmt} {fs : List Str} {C f1 : Addr} (X : K.In h) (G : h.Ns mainGlobals mg)
    {nm qq : Str} {N : Addr} {bs bm : List Value} {sn : List Str} {sub : List Value} {ab : Bool} {col : Option Bool} {dd : Option Addr} {m0 m1 m2 m3 m5 : Option Value}
    {od1 an1 : Option Addr} {sl1 : Array (Option Value)} {oc1 kV1 dc1 pm1 cd1 ct1 : Value}
    (aC : PySem.W.nsIn K mainGlobals x = some (some (.ref C)))
    (xL : K.lookup C = some (excClassObj nm qq C N bs bm true sn sub ab col dd m0 m1 m2 m3 m5 "ValueError.__new__")) (hbm : PySem.HandSPX.refsVE bm = true)
    (sa : PySem.W.findIn K (.ref C) "__setattr__" = some (some (.builtin "object.__setattr__"))) (ga : PySem.W.findIn K (.ref C) "__getattribute__" = some (some (.builtin "BaseException.__getattribute__"))) (gg : PySem.W.findIn K (.ref C) "__getattr__" = some none) (hC : PySem.W.hasDictIn K C = true) (no : ∀ f ∈ fs, PySem.W.findIn K (.ref C) f = some none)
    (a1 : PySem.W.findIn K (.ref C) "__init__" = some (some (.ref f1))) (t1 : PySem.W.typeIn K (.ref f1) = some (.type "function"))
    (l1 : K.lookup f1 = some ⟨oc1, od1, .func (PySem.W.fnOf "__init__" q (defArgs st) (defBody st) (defScope st) .none kV1 dc1 pm1 an1 cd1 ct1), sl1⟩) (c1 : PySem.W.codeIn K cd1 q = true) (k1 : PySem.W.keepIn K (.ref f1) = true)
    (kC : PySem.W.keepIn K (.ref C) = true) (eC : PySem.W.subIn K (.ref C) (.type "BaseException") = some true) (tC : PySem.W.typeIn K (.ref C) = some (.type "type")) (sC : PySem.W.subIn K (.ref C) (.ref C) = some true) (hd : PySem.W.hasDictIn K C = true) : ErrAt K mg x q st fs C :=
  ⟨PySem.W.mg_of X G aC, ⟨⟨nm, qq, N, bs, bm, sn, sub, ab, col, dd, m0, m1, m2, m3, m5, xL, hbm⟩, sa, eC, tC, kC⟩, ⟨ga, gg, eC, hC⟩, no, PySem.W.exm_ref eC hd tC sC, f1, _, a1, t1, fun_mk l1 c1 k1⟩
theorem u_eqDI {n : Bool} {a b : Int} {post : PV → Prop} (h : post (.bl (if n then !decide (a = b) else decide (a = b)))) : fEqD n (.int a) (.int b) post := by
  refine u_eqD rfl rfl rfl rfl ?_
  rw [show PyData.eqv (PV.int a).toD (PV.int b).toD = decide (a = b) from rfl]
  exact h
theorem u_eqDI1 {a : Int} {post : PV → Prop} (h : post (.bl true)) : fEqD false (.int a) (.int a) post := u_eqDI (by simpa using h)
theorem u_eqDIf {a b : Int} {post : PV → Prop} (e : decide (a = b) = false) (h : post (.bl false)) : fEqD false (.int a) (.int b) post := u_eqDI (by rw [e]; exact h)
theorem u_lcId {ρ : En} {ds : List PV} {q : PV → En → (En → Prop) → Prop} {pe : PX PV} {vs : List Nat} {post : Vl → Prop} (h : ∀ (i : Nat) d (R : PV → Prop), ds[i]? = some d → R d → q d (wipeN ρ vs) fun ρ2 => pe ρ2 R) (k : post (.ol ds)) : lcQ q pYes pe vs ρ post ds := by
  have := u_lcMap (ρ := ρ) (xs := ds) (f := id) (q := q) (pe := pe) (vs := vs) (post := post) id h (by rw [List.map_id]; exact k)
  rwa [List.map_id] at this
theorem isc_cl {K : PySem.W.Frag} {C : Addr} (h : OexC K C) : (PySem.W.clsIn K C).isSome = true := by
  obtain ⟨⟨nm, qq, N, bs, bm, sn, sub, ab, col, dd, m0, m1, m2, m3, m5, xL, hbm⟩, _⟩ := h
  unfold PySem.W.clsIn
  rw [xL]
  rfl
/-! ## a list of the caller's that the callee changes -/
section
variable {K : PySem.W.Frag} {PO : POk} {X : Cx} {W : WX} {B G0 G H G1 H1 : Hp} {pl : PL} {σ : L2.St} {ρ : En}
/-- x.append(e), x the caller's -/
def pAppA (i : Nat) (p : En → (Vl → En → Prop) → Prop) : PSt := fun P ρ => (∃ a ds0, ρ[i]? = some (some (.«at» (.obj a) a ds0))) ∧ p ρ fun vl ρ' => ∃ d a ds, vl = .sh d ∧ ρ'[i]? = some (some (.«at» (.obj a) a ds)) ∧ ds.length < 16777216 ∧ P.nx (ρ'.set i (some (.«at» (.obj a) a (ds ++ [d]))))
theorem ss_appA {i : Nat} {te : TE} {p : En → (Vl → En → Prop) → Prop} (h : SM K PO te p) : SS K PO W (tDrop (tBM K "list" rAppend (tVar i) (tCons te tNil))) (pAppA i p) := fun {B G0 G H pl σ ρ D P} r e hp => by
  obtain ⟨⟨a0, ds0, e0⟩, hp⟩ := hp
  obtain ⟨v, A, e1, e2, _⟩ := r.var e0
  obtain ⟨xs0, _, hv0, h0, _⟩ := e2
  unfold Rs at hv0
  subst hv0
  refine ⟨.ref a0, e1, .inl ⟨rfl, _, SqL.of h0⟩, h r hp fun w wl ρ' G' H' pl' s le r' hp1 => ?_⟩
  obtain ⟨d, a, ds, rfl, ei, hl, hp2⟩ := hp1
  obtain ⟨v', A', C, g1, g2, g3, nd, n, fin⟩ := r'.mutT ei
  rw [e1] at g1
  cases g1
  obtain ⟨xs, rfl, eb, k1, k2, k3⟩ := g2
  unfold Rs at eb
  cases eb
  refine ⟨a0, xs, w, rfl, rfl, k1, by rw [k2.len, line_eq]; exact hl, e.nx s le (fin (upd H' a0 (.lst (xs ++ [w]))) (.«at» (.obj a0) a0 (ds ++ [d])) [a0] (fun b hb => upd_ne fun z => hb (by simp [z])) (fun b hb => ?_) ⟨_, rfl, Rs.obj, upd_same, k2.snoc g3.2, ?_⟩ (by simp) (fun b hb => List.mem_append_left _ hb)) hp2⟩
  · rw [List.mem_singleton.mp hb, upd_same]
    simp
  · rw [List.length_append, List.length_singleton]
    omega
theorem qs_appA {i : Nat} {o e : Expr} {apos cpos pos : Pos} {te : TE} {p : En → (Vl → En → Prop) → Prop} (hK : X.K = K) (h : QM K PO X e te p)
    (hpe : PE X e te → PE X (.Call (.Attribute o "append" apos) [e] [] cpos) (tBM X.K "list" rAppend (tVar i) (tCons te tNil))) (hs : swapsWith (.Call (.Attribute o "append" apos) [e] [] cpos) none pos.line X.env = pure false := by rfl) :
    QS K PO W X (.Expr (.Call (.Attribute o "append" apos) [e] [] cpos) pos) (tDrop (tBM K "list" rAppend (tVar i) (tCons te tNil))) (pAppA i p) := by
  subst hK
  exact ⟨ps_expr (hpe h.pe) hs, ss_appA h.sd⟩
/-- x[k] = e, x the caller's -/
def pStoA (i : Nat) (pk : PX PV) (p : PX PV) : PSt := fun P ρ => p ρ fun d => ∃ a ds, ρ[i]? = some (some (.«at» (.obj a) a ds)) ∧ pk ρ fun y => ∃ k j, y = .int k ∧ ixN ds.length k = some j ∧ P.nx (ρ.set i (some (.«at» (.obj a) a (ds.set j d))))
theorem ss_stoA {i : Nat} {tk te : TE} {pk p : PX PV} (hk : SX rS K PO tk pk) (h : SX rS K PO te p) : SS K PO W (tAsg te (gSub (tVar i) tk rSetL)) (pStoA i pk p) := fun {B G0 G H pl σ ρ D P} r e hp => h r hp fun w d G1 H1 pl1 s1 hd hp1 => by
  obtain ⟨a, ds, ei, hp1⟩ := hp1
  have r1 := r.step s1
  obtain ⟨v, A, ev, _⟩ := r1.var ei
  refine ⟨v, ev, hk r1 hp1 fun y dy G2 H2 pl2 s2 hdy hp2 => ?_⟩
  obtain ⟨k, j, rfl, hj, hp3⟩ := hp2
  have r2 := r1.step s2
  obtain ⟨v', A', g1, g2, nd, n, fin⟩ := r2.mut ei
  rw [ev] at g1
  cases g1
  obtain ⟨xs, rfl, eb, k1, k2, k3⟩ := g2
  unfold Rs at eb
  cases eb
  refine ⟨a, xs, k, j, rfl, rs_int (K := K) (pl := pl2) (G := G2) hdy, k1, by rw [k2.len]; exact hj, e.nx (s1.g.trans s2.g) (s1.le.trans s2.le) (fin (upd H2 a (.lst (xs.set j w))) (.«at» (.obj a) a (ds.set j d)) [a] (fun b hb => upd_ne fun z => hb (by simp [z])) (fun b hb => ?_) ⟨_, rfl, Rs.obj, upd_same, k2.set j (Rs.mono s2.g s2.le _ _ hd), ?_⟩ (by simp) (fun b hb => hb)) hp3⟩
  · rw [List.mem_singleton.mp hb, upd_same]
    simp
  · rw [List.length_set]
    exact k3
theorem qs_stoA {i : Nat} {x : Str} {ek e : Expr} {p0 spos pos : Pos} {tk te : TE} {pk p : PX PV} (hk : QX rS K PO X ek tk pk) (h : QX rS K PO X e te p) (hpe : PE X ek tk → PG X (.Subscript (.Name x p0) ek spos) (gSub (tVar i) tk rSetL))
    (hs : swapsWithSole [.Subscript (.Name x p0) ek spos] e pos.line X.env = pure false := by rfl) (hw : swappedStores [.Subscript (.Name x p0) ek spos] e X.env = pure none := by rfl)
    (h1 : (assignEach [.Subscript (.Name x p0) ek spos] X.env).map (·.2) = [assign (.Subscript (.Name x p0) ek spos) X.env] := by rfl) :
    QS K PO W X (.Assign [.Subscript (.Name x p0) ek spos] e pos) (tAsg te (gSub (tVar i) tk rSetL)) (pStoA i pk p) := ⟨ps_asg h.pe (hpe hk.pe) hs hw h1, ss_stoA hk.sd h.sd⟩
/-- at the end: what is given back, and the caller's list -/
theorem Rel.keepA {v : V} {d d0 : PV} {m : Nat} {a : Addr} {ds : List PV} (r : Rel K PO B G0 G H pl (σ ++ [some v]) (ρ ++ [some (.sh d)])) (e : ρ[m]? = some (some (.«at» d0 a ds))) : Rel K PO B G0 G H pl [some v] [some (.«at» d a ds)] := by
  have hl := r.lenT
  have hm := (List.getElem?_eq_some_iff.mp e).1
  obtain ⟨fp, f1, f2, f3, f4⟩ := r.ex
  obtain ⟨v0, e1, xs, ea, k1, k2, k3, k4⟩ := f1 m _ (by rw [List.getElem?_append_left hm]; exact e)
  obtain ⟨v1, e2, hA, hd⟩ := f1 ρ.length (.sh d) (by rw [List.getElem?_append_right (Nat.le_refl _), Nat.sub_self]; rfl)
  rw [List.getElem?_append_right (by omega), hl, Nat.sub_self] at e2
  cases e2
  refine ⟨r.ok, r.gb, r.on, r.fr, rfl, fun i => if i = 0 then fp m else [], fun i vl q => ?_, fun i => ?_, fun i j b h1 h2 => ?_, fun i b h1 => ?_⟩
  · have h0 : i = 0 := by have := (List.getElem?_eq_some_iff.mp q).1; simp at this; omega
    subst h0
    cases q
    exact ⟨v, rfl, xs, ea, hd, k2, k3, k4⟩
  · try dsimp only
    split
    · exact f2 _
    · exact List.nodup_nil
  · try dsimp only at h1 h2
    split at h1
    · split at h2
      · omega
      · cases h2
    · cases h1
  · try dsimp only at h1
    split at h1
    · exact f4 _ b h1
    · cases h1
def pRetA (m : Nat) (p : En → (Vl → En → Prop) → Prop) : PSt := fun P ρ => p ρ fun vl ρ' => ∃ d a es, vl = .sh d ∧ ρ'[m]? = some (some (.«at» (.obj a) a es)) ∧ P.rt (.«at» d a es)
theorem qs_retA (m : Nat) {e : Expr} {pos : Pos} {te : TE} {p : En → (Vl → En → Prop) → Prop} (he : QM K PO X e te p) : QS K PO W X (.Return (some e) pos) (tRet te) (pRetA m p) :=
  ⟨ps_ret he.pe, fun {B G0 G H pl σ ρ D P} r e hp => he.sd r hp fun v vl ρ' G' H' pl' s le r' hp1 => by
    obtain ⟨d, a, es, rfl, em, hp2⟩ := hp1
    exact e.rt s le (r'.keepA em) hp2⟩
/-! ### the contract and the call -/
abbrev SpM := List PV → List PV → (PV → List PV → Prop) → Prop
def hSpM (K : PySem.W.Frag) (PO : POk) (sp : SpM) : Sp := fun vs H Q _ => ∃ (G : Hp) (pl : PL) (ds es : List PV) (a : Addr) (us xs : List V) (post : PV → List PV → Prop), vs = us ++ [.ref a] ∧ Ok PO G H pl ∧ Rl K pl G ds us ∧ H a = some (.lst xs) ∧ G a = none ∧ a ∉ pads pl ∧ Rl K pl G es xs ∧ es.length ≤ 16777216 ∧ sp ds es post ∧
  ∀ d es' v G' H', post d es' → Same G G' → Rel K PO (del H a) G G' H' pl [some v] [some (.«at» d a es')] → Q v H'
abbrev CalM (P : Program) (w : World) (K : PySem.W.Frag) (PO : POk) (mg : Str → Option Value) (base : Heap) (k : Nat) (x : Str) (sp : SpM) : Prop := Cal P w K mg base k x (hSpM K PO sp)
/-- behind such a call -/
theorem Rel.behindM {i : Nat} {v : V} {d : PV} {a : Addr} {es es' : List PV} {G2 H2 : Hp} (r : Rel K PO B G0 G1 H1 pl σ ρ) (e : ρ[i]? = some (some (.ol es))) (ev : σ[i]? = some (some (.ref a))) (s : Same G1 G2) (r2 : Rel K PO (del H1 a) G1 G2 H2 pl [some v] [some (.«at» d a es')]) : Rel K PO B G0 G2 H2 pl (σ ++ [some v]) (ρ.set i (some (.ol es')) ++ [some (.sh d)]) := by
  have hl := r.len
  have hi := (List.getElem?_eq_some_iff.mp e).1
  obtain ⟨fp, f1, f2, f3, f4⟩ := r.ex2
  obtain ⟨v0, e1, e2⟩ := f1 i _ e
  rw [ev] at e1
  cases e1
  obtain ⟨a', xs, ea, eA, k1, k2, k3⟩ := e2
  cases ea
  have hai : a ∈ fp i := by rw [eA]; simp
  obtain ⟨qa1, qa2, qa3, qa4⟩ := f4 i a hai
  obtain ⟨gp, g1, g2, g3, g4⟩ := r2.ex
  obtain ⟨v1, e3, xs2, eA2, m1, m2, m3, m4⟩ := g1 0 _ rfl
  cases e3
  obtain ⟨w1, w2, w3, w4⟩ := g4 0 a (by rw [eA2]; simp)
  have nea : ∀ b, b ≠ a → del H1 a b = H1 b := fun b h => del_ne h
  have keepH : ∀ b o, H1 b = some o → b ≠ a → b ∉ pads pl → H2 b = some o := fun b o h1 h2 h3 => r2.fr b o (by rw [nea b h2]; exact h1) h3
  have keepG : ∀ b, Oth H1 b → b ≠ a → G2 b = G1 b := fun b h1 h2 => r2.gb b (h1.to fun o e => by rw [nea b h2]; exact e)
  have ba : ∀ b, B b ≠ none → b ≠ a := fun b h z => h (by rw [z]; exact qa2)
  have gbG : ∀ b, Oth B b → G2 b = G0 b := fun b hb => by
    by_cases hp : b ∈ pads pl
    · have e1 := r2.ok.free b hp
      have e2 := r.ok.free b hp
      rw [e1, ← e2]
      exact r.gb b hb
    · exact (keepG b (hb.to fun o e => r.fr b o e hp) (ba b hb.1)).trans (r.gb b hb)
  refine ⟨r2.ok, gbG, fun b hb => r2.on b (by rw [nea b (ba b hb)]; exact r.on b hb), fun b o eb hb => keepH b o (r.fr b o eb hb) (ba b (by rw [eb]; simp)) hb, by rw [List.length_append, List.length_append, List.length_set, hl]; rfl, ?_⟩
  refine ⟨fun j => if j = ρ.length then [] else fp j, fun j vl q => ?_, fun j => ?_, fun j k b h1 h2 => ?_, fun j b h1 => ?_⟩
  · try dsimp only
    rcases get_app_some q with ⟨hj, q0⟩ | ⟨hj, q0⟩
    · rw [List.length_set] at hj
      rw [if_neg (by omega)]
      rcases get_set_some q0 with ⟨rfl, _, q1⟩ | ⟨hne, q1⟩
      · cases q1
        exact ⟨.ref a, by rw [List.getElem?_append_left (by omega)]; exact ev, a, xs2, rfl, eA, m2, m3, m4⟩
      · obtain ⟨vj, p1, p2⟩ := f1 j vl q1
        refine ⟨vj, by rw [List.getElem?_append_left (by omega)]; exact p1, p2.mono s (plLe.refl _) fun b hb o eo => ?_⟩
        exact keepH b o eo (fun z => hne (f3 _ _ a hai (by rw [← z]; exact hb))) (f4 j b hb).2.2.1
    · rw [List.length_set] at hj
      subst hj
      cases q0
      rw [if_pos rfl]
      exact ⟨v, by rw [List.getElem?_append_right (by omega), hl, Nat.sub_self]; rfl, rfl, m1⟩
  · try dsimp only
    split
    · exact List.nodup_nil
    · exact f2 _
  · try dsimp only at h1 h2
    split at h1
    · cases h1
    · split at h2
      · cases h2
      · exact f3 _ _ b h1 h2
  · try dsimp only at h1
    split at h1
    · cases h1
    · obtain ⟨q1, q2, q3, q4⟩ := f4 j b h1
      by_cases z : b = a
      · subst z
        exact ⟨w1, q2, q3, w4⟩
      · refine ⟨(keepG b q4 z).trans q1, q2, q3, ?_⟩
        cases eo : H1 b with
        | none => exact absurd eo q4.1
        | some o => rw [keepH b o eo z q3]; simp
def SAM (K : PySem.W.Frag) (PO : POk) (i : Nat) (t : TA) (p : PX (List PV)) : Prop :=
  ∀ {B G0 G H : Hp} {pl : PL} {σ : L2.St} {ρ : En} {Q : List V → Hp → Prop} {post : List PV → Prop}, Rel K PO B G0 G H pl σ ρ → p ρ post → (∀ us v ds G' H' pl', Stp PO G H pl G' H' pl' → Rl K pl' G' ds us → σ[i]? = some (some v) → post ds → Q (us ++ [v]) H') → t σ H Q
structure QAM (K : PySem.W.Frag) (PO : POk) (X : Cx) (i : Nat) (e : List Expr) (t : TA) (p : PX (List PV)) : Prop where
  pe : PA X e t
  sd : SAM K PO i t p
def pNilM (i : Nat) : PX (List PV) := fun ρ post => (∃ vl, ρ[i]? = some (some vl)) ∧ post []
theorem qam_last (i : Nat) {x : Str} {pos : Pos} (hN : X.N[i]? = some x := by rfl) (hv : Vis X.env.scope x := by first | exact Or.inl rfl | exact Or.inr (Or.inl rfl) | exact Or.inr (Or.inr rfl)) (hd : (x == ("__debug__" : Str)) = false := by decide) (hcd : (x == ("__classdict__" : Str)) = false := by decide)
    (hs : starEach [.Name x pos] X.env = (false, eval (.Name x pos) X.env) :: starEach [] X.env := by rfl) : QAM K PO X i [.Name x pos] (tCons (tVar i) tNil) (pNilM i) := by
  refine ⟨pa_cons (pv i hN hv hd hcd) pa_nil hs, fun {B G0 G H pl σ ρ Q post} r hp hq => ?_⟩
  obtain ⟨⟨vl, e⟩, hp⟩ := hp
  obtain ⟨v, A, e1, _⟩ := r.var e
  exact ⟨v, e1, hq [] v [] G H pl (Stp.refl r.ok) Rl.nil e1 hp⟩
theorem qam_cons {i : Nat} {e : Expr} {es : List Expr} {te : TE} {t : TA} {p : PX PV} {q : PX (List PV)} (ha : QX rS K PO X e te p) (hr : QAM K PO X i es t q) (hs : starEach (e :: es) X.env = (false, eval e X.env) :: starEach es X.env := by rfl) : QAM K PO X i (e :: es) (tCons te t) (pCons p q) :=
  ⟨pa_cons ha.pe hr.pe hs, fun {B G0 G H pl σ ρ Q post} r hp hq => ha.sd r hp fun v d G1 H1 pl1 s1 hd hp1 => hr.sd (r.step s1) hp1 fun us w ds G2 H2 pl2 s2 hds hw hp2 => hq (v :: us) w (d :: ds) G2 H2 pl2 (s1.trans r.ok s2) (Rl.cons (Rs.mono s2.g s2.le _ _ hd) hds) hw hp2⟩
def pCallM (i : Nat) (sp : SpM) (p : PX (List PV)) : En → (Vl → En → Prop) → Prop := fun ρ post => p ρ fun ds => ∃ es, ρ[i]? = some (some (.ol es)) ∧ sp ds es fun d es' => post (.sh d) (ρ.set i (some (.ol es')))
theorem sm_callM {i : Nat} {sp : SpM} {t : TA} {p : PX (List PV)} (h : SAM K PO i t p) : SM K PO (tCall (hSpM K PO sp) [] E0 t) (pCallM i sp p) := fun {B G0 G H pl σ ρ Q post} r hp hq => by
  refine h r hp fun us v ds G1 H1 pl1 s1 hds ev hp1 => ?_
  obtain ⟨es, e, hp1⟩ := hp1
  have r1 := r.step s1
  obtain ⟨v', A, ev', hR, _, n⟩ := r1.var e
  rw [ev] at ev'
  cases ev'
  obtain ⟨a, xs, rfl, rfl, k1, k2, k3⟩ := hR
  obtain ⟨n1, n2, n3, n4⟩ := n a (by simp)
  show hSpM K PO sp ((us ++ [.ref a]) ++ []) H1 Q E0
  rw [List.append_nil]
  exact ⟨G1, pl1, ds, es, a, us, xs, _, rfl, s1.ok, hds, k1, n1, n3, k2, k3, hp1, fun d es' v G2 H2 hpost s2 r2 => hq v (.sh d) _ G2 H2 pl1 (s1.g.trans s2) s1.le (r1.behindM e ev s2 r2) hpost⟩
theorem qm_cM {i k j : Nat} {x : Str} {sp : SpM} {p0 pos : Pos} {e : Expr} {es : List Expr} {t : TA} {p : PX (List PV)} (hK : X.K = K) (c : CalM X.prog X.w X.K PO X.mg X.base k x sp) (hr : Room j X.A) (hk : k ≤ j) (hg : Gl X x) (ha : QAM K PO X i (e :: es) t p)
    (hdb : (x == ("__debug__" : Str)) = false := by decide) (he : starEach (e :: es) X.env = (false, eval e X.env) :: starEach es X.env := by rfl) (hpl : (backTo pos (starEach es X.env)).any (·.1) = false := by rfl) :
    QM K PO X (.Call (.Name x p0) (e :: es) [] pos) (tCall (hSpM K PO sp) [] E0 t) (pCallM i sp p) := by
  subst hK
  exact ⟨pe_c c hr hk hg ha.pe hdb he hpl, sm_callM ha.sd⟩
/-- if f(.., x): and if not f(.., x): -/
def pIfM (n : Bool) (p : En → (Vl → En → Prop) → Prop) (pa pb : PSt) : PSt := fun P ρ => p ρ fun vl ρ' => ∃ c, vl = .sh (.bl c) ∧ if (if n then !c else c) = true then pa P ρ' else pb P ρ'
theorem qs_ifM {c : Expr} {a b : List Stmt} {pos : Pos} {tc : TE} {t u : TS} {pc : En → (Vl → En → Prop) → Prop} {p q : PSt} (hc : QM K PO X c tc pc) (ha : QB K PO W X a t p) (hb : QB K PO W X b u q) (he : ∀ whole, isTrue c X.env whole = (do let v ← whole; standAt c.pos; holding [v] (truthy v)) := by intro _; rfl) : QS K PO W X (.If c a b pos) (tIfS (tB tc) t u) (pIfM false pc p q) :=
  ⟨ps_if (pt_val hc.pe he) ha.pe hb.pe, fun {B G0 G H pl σ ρ D P} r e hp => hc.sd r hp fun v vl ρ' G1 H1 pl1 s le r1 hp1 => by
    obtain ⟨k, rfl, hp1⟩ := hp1
    obtain ⟨v1, A, e1, hv, _⟩ := r1.var (i := ρ'.length) (vl := .sh (.bl k)) (by simp)
    have hl := r1.lenT
    rw [List.getElem?_append_right (by omega), hl, Nat.sub_self] at e1
    cases e1
    refine ⟨k, rs_bl (K := K) (pl := pl1) (G := G1) hv.2, ?_⟩
    cases k with
    | true => exact ha.sd r1.drop (e.mono s le) hp1
    | false => exact hb.sd r1.drop (e.mono s le) hp1⟩
theorem qs_ifNM {c : Expr} {a b : List Stmt} {pos p1 : Pos} {tc : TE} {t u : TS} {pc : En → (Vl → En → Prop) → Prop} {p q : PSt} (hc : QM K PO X c tc pc) (ha : QB K PO W X a t p) (hb : QB K PO W X b u q) (he : ∀ whole, isTrue c X.env whole = (do let v ← whole; standAt c.pos; holding [v] (truthy v)) := by intro _; rfl) : QS K PO W X (.If (.UnaryOp .Not c p1) a b pos) (tIfS (tNot (tB tc)) t u) (pIfM true pc p q) :=
  ⟨ps_if (pt_not (pt_val hc.pe he)) ha.pe hb.pe, fun {B G0 G H pl σ ρ D P} r e hp => hc.sd r hp fun v vl ρ' G1 H1 pl1 s le r1 hp1 => by
    obtain ⟨k, rfl, hp1⟩ := hp1
    obtain ⟨v1, A, e1, hv, _⟩ := r1.var (i := ρ'.length) (vl := .sh (.bl k)) (by simp)
    have hl := r1.lenT
    rw [List.getElem?_append_right (by omega), hl, Nat.sub_self] at e1
    cases e1
    refine ⟨k, rs_bl (K := K) (pl := pl1) (G := G1) hv.2, ?_⟩
    cases k with
    | false => exact ha.sd r1.drop (e.mono s le) hp1
    | true => exact hb.sd r1.drop (e.mono s le) hp1⟩
/-! ### the callee -/
def startM (n : Nat) (ds : List PV) (a : Addr) (es : List PV) : En := ds.map (fun d => some (.sh d)) ++ some (.«at» (.obj a) a es) :: List.replicate (n - ds.length - 1) none
theorem rel_startM {N : List Str} {vs xs : List V} {ds es : List PV} {a : Addr} (o : Ok PO G H pl) (h : Rl K pl G ds vs) (h1 : H a = some (.lst xs)) (h2 : G a = none) (h3 : a ∉ pads pl) (h4 : Rl K pl G es xs) (h5 : es.length ≤ 16777216) : Rel K PO (del H a) G G H pl (start N (vs ++ [.ref a])) (startM N.length ds a es) := by
  have hl := h.len
  have dn : ∀ b, del H a b ≠ none → b ≠ a := fun b hb z => hb (by rw [z]; exact del_same)
  refine ⟨o, fun _ _ => rfl, fun b hb => by rw [del_ne (dn b hb)] at hb; exact hb, fun b ob e _ => by rw [del_ne (dn b (by rw [e]; simp))] at e; exact e, ?_, ⟨fun i => if i = ds.length then [a] else [], fun i vl e => ?_, fun i => ?_, fun i j b q1 q2 => ?_, fun i b q => ?_⟩⟩
  · unfold L2.start startM
    simp only [List.length_append, List.length_map, List.length_replicate, List.length_cons, List.length_nil, hl]
    omega
  · unfold startM at e
    unfold L2.start
    rw [List.map_append]
    by_cases hi : i < ds.length
    · rw [List.getElem?_append_left (by rw [List.length_map]; exact hi), List.getElem?_map, List.getElem?_eq_getElem hi] at e
      obtain ⟨x, h1, h2⟩ := h.get (List.getElem?_eq_getElem hi)
      cases e
      refine ⟨x, ?_, ?_⟩
      · rw [List.getElem?_append_left (by rw [List.length_append, List.length_map]; omega), List.getElem?_append_left (by rw [List.length_map]; omega), List.getElem?_map, h1]
        rfl
      · show RV K pl G H _ _ (if i = ds.length then [a] else [])
        rw [if_neg (by omega)]
        exact ⟨rfl, h2⟩
    · by_cases hi2 : i = ds.length
      · subst hi2
        rw [List.getElem?_append_right (by rw [List.length_map]; omega), List.length_map, Nat.sub_self] at e
        cases e
        refine ⟨.ref a, ?_, ?_⟩
        · rw [List.getElem?_append_left (by rw [List.length_append, List.length_map]; simp; omega), List.getElem?_append_right (by rw [List.length_map]; omega), List.length_map, hl, Nat.sub_self]
          rfl
        · show RV K pl G H _ _ (if ds.length = ds.length then [a] else [])
          rw [if_pos rfl]
          exact ⟨xs, rfl, Rs.obj, h1, h4, h5⟩
      · obtain ⟨k, hk⟩ : ∃ k, i - ds.length = k + 1 := ⟨i - ds.length - 1, by omega⟩
        rw [List.getElem?_append_right (by rw [List.length_map]; omega), List.length_map, hk, List.getElem?_cons_succ, List.getElem?_replicate] at e
        split at e <;> cases e
  · try dsimp only
    split <;> simp
  · try dsimp only at q1 q2
    split at q1
    · split at q2
      · omega
      · cases q2
    · cases q1
  · try dsimp only at q
    split at q
    · rw [List.mem_singleton.mp q]
      exact ⟨h2, del_same, h3, by rw [h1]; simp⟩
    · cases q
end
theorem At.calM {P : Program} {w : World} {K : PySem.W.Frag} {PO : POk} {mg : Str → Option Value} {base : Heap} {x : Str} {st : Stmt} {N ps : List Str} {k : Nat} {sp : SpM} (m : Nat) (F : At K mg x st) (S : FnScope N ps (defScope st)) (len : ∀ ds es post, sp ds es post → ds.length = m) (hm : ps.length = m + 1)
    (hb : ∀ (kV doc pm : Value) (an : Option Addr) (cdv ct : Value) (us : List Value), us.length = ps.length → bindArgs (PySem.W.fnOf x x (defArgs st) (defBody st) (defScope st) .none kV doc pm an cdv ct) ⟨us, []⟩ = pure (ps.zip us))
    (hbody : ∀ (f : Addr) (cdv : Value) (A : Around) (outer : List Env) (s : Shared) (H : Hp) (E : XK) (a : Addr), Room k (A.deeper (envOfC x (defScope st) s.heap.objs.size f cdv)) →
      ∃ t p, QB K PO (fun _ _ _ _ => False) (cxOf CX0 P w K mg base N x (defScope st) f cdv A outer s H E).nox (defBody st) t p ∧ ∀ ds es post, sp ds es post → p { nx := fun ρ => ∃ es', ρ[m]? = some (some (.«at» (.obj a) a es')) ∧ post .non es', rt := fun vl => ∃ d es', vl = .«at» d a es' ∧ post d es', bk := fun _ => False, ct := fun _ => False } (startM N.length ds a es)) : CalM P w K PO mg base (k + 1) x sp := by
  refine F.cal S (fun vs H Q E h => ?_) hb (fun f cdv A outer s H vs Q E hr h => ?_)
  · obtain ⟨G, pl, ds, es, a, us, xs, post, rfl, _, hl, _, _, _, _, _, hs, _⟩ := h
    rw [List.length_append, hl.len, len ds es post hs, hm]
    rfl
  · obtain ⟨G, pl, ds, es, a, us, xs, post, rfl, o, hl, k1, k2, k3, k4, k5, hs, hq⟩ := h
    obtain ⟨t, p, q, hp⟩ := hbody f cdv A outer s H E a hr
    refine ⟨t, q.pe, ?_⟩
    refine q.sd (P := { nx := fun ρ => ∃ es', ρ[m]? = some (some (.«at» (.obj a) a es')) ∧ post .non es', rt := fun vl => ∃ d es', vl = .«at» d a es' ∧ post d es', bk := fun _ => False, ct := fun _ => False }) (rel_startM o hl k1 k2 k3 k4 k5) ⟨fun {G' H' pl' σ' ρ'} b c r hpost => ?_, fun _ _ _ h => h.elim, fun _ _ _ h => h.elim, fun {G' H' pl' v vl} b c r hpost => ?_, ?_⟩ (hp ds es post hs)
    · cases c
      obtain ⟨es', e, hpost⟩ := hpost
      exact hq .non es' .non G' H' hpost b ((r.pushS (d := .non) (v := .non) Rs.non).keepA e)
    · cases c
      obtain ⟨d, es', rfl, hpost⟩ := hpost
      exact hq d es' v G' H' hpost b r
    · exact fun _ _ _ _ _ h => h.elim
/-! ### a call without arguments -/
section
variable {K : PySem.W.Frag} {PO : POk} {X : Cx}
def pCall0 (sp : SpV) : PX Vl := fun _ post => sp [] post
theorem so_call0 {sp : SpV} : SO K PO (tCall (hSp K PO sp) [] E0 tNil) (pCall0 sp) := fun {B G0 G H pl σ ρ Q post} r hp hq => by
  show hSp K PO sp ([] ++ []) H Q E0
  refine ⟨G, pl, [], post, r.ok, Rl.nil, hp, fun vl v G2 H2 hpost s2 r2 => ?_⟩
  obtain ⟨A, st, hv, nd, n⟩ := Rel.ret (B := B) r.ok r2 s2
  exact hq v vl A G2 H2 pl st hv nd n hpost
theorem qo_c0 {k j : Nat} {x : Str} {sp : SpV} {p0 pos : Pos} (hK : X.K = K) (c : CalV X.prog X.w X.K PO X.mg X.base k x sp) (hr : Room j X.A) (hk : k ≤ j) (hg : Gl X x) (hdb : (x == ("__debug__" : Str)) = false := by decide) : QO K PO X (.Call (.Name x p0) [] [] pos) (tCall (hSp K PO sp) [] E0 tNil) (pCall0 sp) := by
  subst hK
  obtain ⟨f, fd, ps, F, hm, kp, b⟩ := c.ex
  exact ⟨pe_call0 F (hr.mono hk) hg hm kp b .nil pass0 hdb, so_call0⟩
theorem u_call0 {sp : SpV} {ρ : En} {post : Vl → Prop} (h : sp [] post) : pCall0 sp ρ post := h
end
/-! ### one of several classes -/
section
variable {K : PySem.W.Frag} {PO : POk} {X : Cx} {α : Type}
theorem pe_ex {S : Addr → Prop} {e : Expr} {t : Addr → TE} (h : ∀ C, S C → PE X e (t C)) : PE X e (fun σ H Q => ∃ C, S C ∧ t C σ H Q) :=
  ⟨fun pins s σ H Q I q => by
    obtain ⟨C, hC, q⟩ := q
    exact (h C hC).run pins s σ H Q I q⟩
theorem qx_ex {S : Addr → Prop} {R : RK α} {e : Expr} {t : Addr → TE} {p : Addr → PX α} (h : ∀ C, S C → QX R K PO X e (t C) (p C)) : QX R K PO X e (fun σ H Q => ∃ C, S C ∧ t C σ H Q) (fun ρ post => ∃ C, S C ∧ p C ρ post) :=
  ⟨pe_ex fun C hC => (h C hC).pe, fun {B G0 G H pl σ ρ Q post} r hp hq => by
    obtain ⟨C, hC, hp⟩ := hp
    exact ⟨C, hC, (h C hC).sd r hp hq⟩⟩
end
/-! ### sorted letters -/
theorem risingS_le : ∀ (p : List Nat) (l : List (List Nat)), risingS (S p) (l.map S) = true → (p :: l).Pairwise fun a b => ¬ b < a
  | p, [], _ => List.pairwise_singleton _ _
  | p, x :: r, h => by
    have h' : (!ltCps x p && risingS (S x) (r.map S)) = true := h
    rw [Bool.and_eq_true, ltCps_eq] at h'
    obtain ⟨h1, h2⟩ := h'
    have h1 : ¬ x < p := by simpa using h1
    have ih := risingS_le x r h2
    refine List.pairwise_cons.mpr ⟨fun y hy => ?_, ih⟩
    rcases List.mem_cons.mp hy with rfl | hy
    · exact h1
    · exact List.le_trans (l₁ := p) (l₂ := x) (l₃ := y) h1 ((List.pairwise_cons.mp ih).1 y hy)
theorem sorted_le (l : List (List Nat)) (h : sortedS (l.map S) = true) : l.Pairwise fun a b => ¬ b < a := by
  cases l with
  | nil => exact List.Pairwise.nil
  | cons x r => exact risingS_le x r h
theorem lt_one {a b : Nat} : ([a] : List Nat) < [b] ↔ a < b := by
  constructor
  · intro h
    cases h with
    | rel h => exact h
    | cons h => cases h
  · exact fun h => .rel h
theorem sort_chrsO {w : List Nat} {post : Vl → Prop} (hz : w.length < 64) (h : ∀ u : List Nat, u.Perm w → u.Pairwise (· ≤ ·) → post (.ol (chrs u))) : fSortS (chrs w) post := by
  refine ⟨w.map fun c => [c], by unfold chrs; rw [List.map_map]; rfl, by rw [List.length_map]; exact hz, fun ms hp hso => ?_⟩
  have hpw := sorted_le ms hso
  have e : ms = ms.flatten.map fun c => [c] := by
    have : ∀ m ∈ ms, ∃ c, m = [c] := fun m hm => by
      obtain ⟨c, _, e⟩ := List.mem_map.mp (hp.mem_iff.mp hm)
      exact ⟨c, e.symm⟩
    clear hp hso hpw
    induction ms with
    | nil => rfl
    | cons m ms ih =>
      obtain ⟨c, rfl⟩ := this m (by simp)
      rw [List.flatten_cons, List.map_append, ← ih fun m hm => this m (by simp [hm])]
      rfl
  have h2 := h ms.flatten (by have := hp.flatten; rwa [flat_chr] at this) (by
    rw [e, List.pairwise_map] at hpw
    refine hpw.imp fun {a b} q => ?_
    rw [lt_one] at q
    omega)
  unfold chrs at h2
  rw [e, List.map_map]
  exact h2
/-! ### walking -/
section
variable {K : PySem.W.Frag} {PO : POk} {X : Cx} {W : WX} {ρ : En} {P : PEnds} {i m : Nat} {a : Addr} {ds es : List PV} {d : PV}
def appAQ (i : Nat) (vl : Vl) (ρ : En) (P : PEnds) : Prop := ∃ d a ds, vl = .sh d ∧ ρ[i]? = some (some (.«at» (.obj a) a ds)) ∧ ds.length < 16777216 ∧ P.nx (ρ.set i (some (.«at» (.obj a) a (ds ++ [d]))))
theorem u_appA {p : En → (Vl → En → Prop) → Prop} (h1 : ρ[i]? = some (some (.«at» (.obj a) a ds))) (h : p ρ fun vl ρ' => appAQ i vl ρ' P) : pAppA i p P ρ := ⟨⟨a, ds, h1⟩, h⟩
theorem u_appAQ (h1 : ρ[i]? = some (some (.«at» (.obj a) a ds))) (h2 : ds.length < 16777216) (h : P.nx (ρ.set i (some (.«at» (.obj a) a (ds ++ [d]))))) : appAQ i (.sh d) ρ P := ⟨d, a, ds, rfl, h1, h2, h⟩
def stoAA (i : Nat) (pk : PX PV) (d : PV) (ρ : En) (P : PEnds) : Prop := ∃ a ds, ρ[i]? = some (some (.«at» (.obj a) a ds)) ∧ pk ρ fun y => ∃ k j, y = .int k ∧ ixN ds.length k = some j ∧ P.nx (ρ.set i (some (.«at» (.obj a) a (ds.set j d))))
theorem u_stoM {pk p : PX PV} (h : p ρ fun d => stoAA i pk d ρ P) : pStoA i pk p P ρ := h
def stoAQ (i : Nat) (a : Addr) (ds : List PV) (y : PV) (d : PV) (ρ : En) (P : PEnds) : Prop := ∃ k j, y = .int k ∧ ixN ds.length k = some j ∧ P.nx (ρ.set i (some (.«at» (.obj a) a (ds.set j d))))
theorem u_stoM2 {pk : PX PV} (h1 : ρ[i]? = some (some (.«at» (.obj a) a ds))) (h : pk ρ fun y => stoAQ i a ds y d ρ P) : stoAA i pk d ρ P := ⟨a, ds, h1, h⟩
theorem u_stoMQ {k : Int} {j : Nat} (h1 : ixN ds.length k = some j) (h : P.nx (ρ.set i (some (.«at» (.obj a) a (ds.set j d))))) : stoAQ i a ds (.int k) d ρ P := ⟨k, j, rfl, h1, h⟩
theorem u_varA {post : List PV → Prop} (h1 : ρ[i]? = some (some (.«at» (.obj a) a ds))) (h : post ds) : pVarL i ρ post := ⟨_, ds, h1, .«at» a ds, h⟩
def retAQ (m : Nat) (vl : Vl) (ρ : En) (P : PEnds) : Prop := ∃ d a es, vl = .sh d ∧ ρ[m]? = some (some (.«at» (.obj a) a es)) ∧ P.rt (.«at» d a es)
theorem u_retA {p : En → (Vl → En → Prop) → Prop} (h : p ρ fun vl ρ' => retAQ m vl ρ' P) : pRetA m p P ρ := h
theorem u_retAQ (h1 : ρ[m]? = some (some (.«at» (.obj a) a es))) (h : P.rt (.«at» d a es)) : retAQ m (.sh d) ρ P := ⟨d, a, es, rfl, h1, h⟩
def callMQ (i : Nat) (sp : SpM) (ds : List PV) (ρ : En) (post : Vl → En → Prop) : Prop := ∃ es, ρ[i]? = some (some (.ol es)) ∧ sp ds es fun d es' => post (.sh d) (ρ.set i (some (.ol es')))
theorem u_callM {sp : SpM} {p : PX (List PV)} {post : Vl → En → Prop} (h : p ρ fun ds => callMQ i sp ds ρ post) : pCallM i sp p ρ post := h
theorem u_callMQ {sp : SpM} {post : Vl → En → Prop} (h1 : ρ[i]? = some (some (.ol es))) (h : sp ds es fun d es' => post (.sh d) (ρ.set i (some (.ol es')))) : callMQ i sp ds ρ post := ⟨es, h1, h⟩
theorem u_ifM {n : Bool} {p : En → (Vl → En → Prop) → Prop} {pa pb : PSt} (h : p ρ fun vl ρ' => ∃ c, vl = .sh (.bl c) ∧ if (if n then !c else c) = true then pa P ρ' else pb P ρ') : pIfM n p pa pb P ρ := h
theorem u_ifMTt {pa pb : PSt} (h : pb P ρ) : ∃ c, Vl.sh (.bl true) = .sh (.bl c) ∧ if (if true then !c else c) = true then pa P ρ else pb P ρ := ⟨true, rfl, h⟩
theorem u_ifMTf {pa pb : PSt} (h : pa P ρ) : ∃ c, Vl.sh (.bl true) = .sh (.bl c) ∧ if (if false then !c else c) = true then pa P ρ else pb P ρ := ⟨true, rfl, h⟩
theorem u_ifMFt {pa pb : PSt} (h : pa P ρ) : ∃ c, Vl.sh (.bl false) = .sh (.bl c) ∧ if (if true then !c else c) = true then pa P ρ else pb P ρ := ⟨false, rfl, h⟩
theorem u_ifMFf {pa pb : PSt} (h : pb P ρ) : ∃ c, Vl.sh (.bl false) = .sh (.bl c) ∧ if (if false then !c else c) = true then pa P ρ else pb P ρ := ⟨false, rfl, h⟩
theorem u_nilM {vl : Vl} {post : List PV → Prop} (h1 : ρ[i]? = some (some vl)) (h : post []) : pNilM i ρ post := ⟨⟨vl, h1⟩, h⟩
end
/-! ## what the laws about checks share -/
abbrev al52 : List Nat := (List.range 26).map (65 + ·) ++ (List.range 26).map (97 + ·)
abbrev al26 : List Nat := (List.range 26).map (65 + ·)
abbrev sm26 : List Nat := (List.range 26).map (97 + ·)
abbrev wShape : List Nat := [115, 104, 97, 112, 101]
abbrev wLimit : List Nat := [108, 105, 109, 105, 116]
theorem al_iff (c : Nat) : c ∈ al52 ↔ c ∈ al26 ∨ c ∈ sm26 := List.mem_append
abbrev fw (a : Int) (w : List Nat) : PV := .tup [.int a, .str w]
def flt : Option (Int × List Nat) → PV
  | none => .non
  | some (a, w) => fw a w
def NoStr (d : PV) : Prop := (d = .non ∨ (∃ b, d = .bl b) ∨ (∃ i, d = .int i) ∨ (∃ ds, d = .tup ds) ∨ ∃ ds, d = .lst ds)
def Thing (d : PV) : Prop := (∃ t, d = .str t) ∨ NoStr d
abbrev erP (C : Addr) (a : Int) (w : List Nat) : Er := ⟨C, [("at", .int a), ("word", .str w)]⟩
theorem isi_NoStr {d : PV} {post : PV → Prop} (h : NoStr d) (q : post (.bl false)) : fIsi [d, .ty "str"] post := by
  rcases h with rfl | ⟨b, rfl⟩ | ⟨i, rfl⟩ | ⟨ds, rfl⟩ | ⟨ds, rfl⟩
  · exact u_isiN rfl q
  · exact u_isiB rfl q
  · exact u_isiI rfl q
  · exact u_isiT rfl q
  · exact u_isiL rfl q
theorem ite_t {A B : Prop} {b : Bool} (h : b = true) (k : A) : if b = true then A else B := by rw [if_pos h]; exact k
theorem ite_f {A B : Prop} {b : Bool} (h : b = false) (k : B) : if b = true then A else B := by rw [if_neg (by rw [h]; simp)]; exact k
/-! ### values that are compared -/
mutual
def psz : PV → Nat
  | .tup ds => 1 + pszs ds
  | .lst ds => 1 + pszs ds
  | _ => 1
def pszs : List PV → Nat
  | [] => 0
  | d :: ds => psz d + pszs ds
end
mutual
def pln : PV → Bool
  | .non => true
  | .bl _ => true
  | .int _ => true
  | .str _ => true
  | .tup ds => plns ds
  | .lst ds => plns ds
  | _ => false
def plns : List PV → Bool
  | [] => true
  | d :: ds => pln d && plns ds
end
theorem psz_tup (ds : List PV) : psz (.tup ds) = 1 + pszs ds := by unfold psz; rfl
theorem psz_lst (ds : List PV) : psz (.lst ds) = 1 + pszs ds := by unfold psz; rfl
theorem pszs_nil : pszs [] = 0 := by unfold pszs; rfl
theorem pszs_cons (d : PV) (ds : List PV) : pszs (d :: ds) = psz d + pszs ds := by rw [pszs]
theorem pln_tup (ds : List PV) : pln (.tup ds) = plns ds := by unfold pln; rfl
theorem pln_lst (ds : List PV) : pln (.lst ds) = plns ds := by unfold pln; rfl
theorem plns_nil : plns [] = true := by unfold plns; rfl
theorem plns_cons (d : PV) (ds : List PV) : plns (d :: ds) = (pln d && plns ds) := by rw [plns]
theorem psz_pos (d : PV) : 1 ≤ psz d := by cases d <;> unfold psz <;> omega
theorem pszs_app (xs ys : List PV) : pszs (xs ++ ys) = pszs xs + pszs ys := by
  induction xs with
  | nil => rw [List.nil_append, pszs_nil, Nat.zero_add]
  | cons x xs ih => rw [List.cons_append, pszs_cons, pszs_cons, ih]; omega
theorem plns_app (xs ys : List PV) : plns (xs ++ ys) = (plns xs && plns ys) := by
  induction xs with
  | nil => rw [List.nil_append, plns_nil, Bool.true_and]
  | cons x xs ih => rw [List.cons_append, plns_cons, plns_cons, ih, Bool.and_assoc]
theorem pszs_len (xs : List PV) : xs.length ≤ pszs xs := by
  induction xs with
  | nil => exact Nat.zero_le _
  | cons x xs ih => rw [pszs_cons, List.length_cons]; have := psz_pos x; omega
theorem plns_mem {xs : List PV} : plns xs = true ↔ ∀ x ∈ xs, pln x = true := by
  induction xs with
  | nil => rw [plns_nil]; simp
  | cons x xs ih => rw [plns_cons, Bool.and_eq_true, ih]; simp
theorem pszs_le {xs : List PV} {k : Nat} (h : ∀ x ∈ xs, psz x ≤ k) : pszs xs ≤ k * xs.length := by
  induction xs with
  | nil => rw [pszs_nil]; omega
  | cons x xs ih =>
    rw [pszs_cons, List.length_cons, Nat.mul_add, Nat.mul_one]
    have := h x (by simp)
    have := ih fun y hy => h y (by simp [hy])
    omega
theorem psz_int (i : Int) : psz (.int i) = 1 := by unfold psz; rfl
theorem psz_str (i : List Nat) : psz (.str i) = 1 := by unfold psz; rfl
theorem psz_bl (i : Bool) : psz (.bl i) = 1 := by unfold psz; rfl
theorem psz_non : psz .non = 1 := by unfold psz; rfl
theorem pln_int (i : Int) : pln (.int i) = true := by unfold pln; rfl
theorem pln_str (i : List Nat) : pln (.str i) = true := by unfold pln; rfl
theorem pln_bl (i : Bool) : pln (.bl i) = true := by unfold pln; rfl
theorem pln_non : pln .non = true := by unfold pln; rfl
def Pl (k : Nat) (d : PV) : Prop := pln d = true ∧ psz d ≤ k
abbrev twice (x : PV) : PV := .tup [x, x]
def sp_law_same : SpV := fun ds post => ∃ d : PV, ds = [d, d] ∧ Pl 1000000 d ∧ post (.sh (.bl true))
theorem eq_same (b : Bool) : PyData.eqv (PV.bl b).toD (PV.bl b).toD = true := by cases b <;> rfl
theorem u_eqDB {b : Bool} {post : PV → Prop} (h : post (.bl true)) : fEqD false (.bl b) (.bl b) post := by
  refine u_eqD rfl rfl rfl rfl ?_
  rw [eq_same b]
  exact h
theorem Pl.mono {k j : Nat} {d : PV} (h : Pl k d) (hk : k ≤ j) : Pl j d := ⟨h.1, Nat.le_trans h.2 hk⟩
theorem pl_int (k : Nat) (i : Int) (hk : 1 ≤ k := by omega) : Pl k (.int i) := ⟨pln_int i, by rw [psz_int]; exact hk⟩
theorem pl_str (k : Nat) (i : List Nat) (hk : 1 ≤ k := by omega) : Pl k (.str i) := ⟨pln_str i, by rw [psz_str]; exact hk⟩
theorem pl_bl (k : Nat) (i : Bool) (hk : 1 ≤ k := by omega) : Pl k (.bl i) := ⟨pln_bl i, by rw [psz_bl]; exact hk⟩
theorem pl_non (k : Nat) (hk : 1 ≤ k := by omega) : Pl k .non := ⟨pln_non, by rw [psz_non]; exact hk⟩
theorem pl_tup {k n : Nat} {ds : List PV} (h : ∀ x ∈ ds, Pl k x) (hl : ds.length ≤ n) : Pl (1 + k * n) (.tup ds) :=
  ⟨by rw [pln_tup, plns_mem]; exact fun x hx => (h x hx).1, by rw [psz_tup]; have := pszs_le fun x hx => (h x hx).2; have := Nat.mul_le_mul_left k hl; omega⟩
theorem pl_lst {k n : Nat} {ds : List PV} (h : ∀ x ∈ ds, Pl k x) (hl : ds.length ≤ n) : Pl (1 + k * n) (.lst ds) :=
  ⟨by rw [pln_lst, plns_mem]; exact fun x hx => (h x hx).1, by rw [psz_lst]; have := pszs_le fun x hx => (h x hx).2; have := Nat.mul_le_mul_left k hl; omega⟩
/-! ### the pool -/
def sp_draw : SpV := fun ds post => ∃ m : Int, ds = [.pool, .int m] ∧ (0 < m ∧ m < 1073741824) ∧ ∀ v : Nat, (v : Int) < m → post (.sh (.int (v : Nat)))
theorem u_draw {m : Int} {post : Vl → Prop} (h : 0 < m ∧ m < 1073741824) (h2 : ∀ v : Nat, (v : Int) < m → post (.sh (.int (v : Nat)))) : sp_draw [.pool, .int m] post := ⟨m, rfl, h, h2⟩
def POD : POk := ⟨fun v as H => ∃ (p g : Addr) (x : Int) (ns : List Int), v = .ref p ∧ as = [p, g] ∧ p ≠ g ∧ H p = some (.lst [.int x, .ref g]) ∧ H g = some (.lst (ns.map V.int)) ∧ ns.length ≤ 63,
  fun v as H H' ⟨p, g, x, ns, h1, h2, h3, h4, h5, h6⟩ h => ⟨p, g, x, ns, h1, h2, h3, by rw [h p (by rw [h2]; simp)]; exact h4, by rw [h g (by rw [h2]; simp)]; exact h5, h6⟩,
  fun v as H ⟨p, g, x, ns, h1, h2, h3, h4, h5, h6⟩ a ha => by
    rw [h2] at ha
    rcases List.mem_cons.mp ha with rfl | ha
    · exact .lst h4
    · rw [List.mem_singleton.mp ha]; exact .lst h5⟩
theorem sub_len {l m : List Nat} (h : l.Nodup) (hs : ∀ x ∈ l, x ∈ m) : l.length ≤ m.length := by
  induction l generalizing m with
  | nil => exact Nat.zero_le _
  | cons a l ih =>
    obtain ⟨h1, h2⟩ := List.nodup_cons.mp h
    have ha := hs a (by simp)
    have := ih (m := m.erase a) h2 fun x hx => (List.mem_erase_of_ne fun e => h1 (by rw [← e]; exact hx)).mpr (hs x (by simp [hx]))
    rw [List.length_erase_of_mem ha] at this
    have := List.length_pos_of_mem ha
    rw [List.length_cons]
    omega
def shapeD (ds : List PV) : Prop := ∃ (x : Int) (ns : List Int), ds = [.int x, .lst (ns.map .int)] ∧ ns.length ≤ 63
def sp_law_pool : SpV := fun ds post => ∃ ns : List Int, ds = [.scr ns] ∧ ns.length ≤ 63 ∧ ∀ ds', shapeD ds' → post (.ol ds')
theorem isL_thing {d : PV} (h : Thing d) : (∃ ds, d = .lst ds) ∨ ∀ post : PV → Prop, post (.bl false) → fIsi [d, .ty "list"] post := by
  rcases h with ⟨t, rfl⟩ | rfl | ⟨b, rfl⟩ | ⟨i, rfl⟩ | ⟨ds, rfl⟩ | ⟨ds, rfl⟩
  · exact .inr fun _ q => u_isiSL q
  · exact .inr fun _ q => u_isiNL q
  · exact .inr fun _ q => u_isiB rfl q
  · exact .inr fun _ q => u_isiIL q
  · exact .inr fun _ q => u_isiT rfl q
  · exact .inl ⟨ds, rfl⟩
theorem cutL_bd {α : Type} {l : List α} {k : Nat} (h : l.length ≤ k) (lo hi : Option Int) : (cutL l lo hi).length ≤ k := Nat.le_trans (cutL_le l lo hi) h
theorem nin_t {α : Type} [DecidableEq α] {c : α} {l : List α} (h : (if true = true then !decide (c ∈ l) else decide (c ∈ l)) = true) : c ∉ l := by
  rw [if_pos rfl] at h
  exact of_decide_eq_false (by simpa only [Bool.not_eq_true'] using h)
theorem nin_f {α : Type} [DecidableEq α] {c : α} {l : List α} (h : (if true = true then !decide (c ∈ l) else decide (c ∈ l)) = false) : c ∈ l := by
  rw [if_pos rfl] at h
  exact of_decide_eq_true (by simpa only [Bool.not_eq_false'] using h)
theorem nd_t {p : Prop} [Decidable p] (h : (!decide p) = true) : ¬ p := of_decide_eq_false (by simpa only [Bool.not_eq_true'] using h)
theorem nd_f {p : Prop} [Decidable p] (h : (!decide p) = false) : p := of_decide_eq_true (by simpa only [Bool.not_eq_false'] using h)
theorem cutL_mapL {α β : Type} (f : α → β) (l : List α) (lo hi : Option Int) : cutL (l.map f) lo hi = (cutL l lo hi).map f := by
  unfold cutL
  rw [List.length_map, List.map_take, List.map_drop]
theorem chrs_cut (w : List Nat) (lo hi : Option Int) : cutL (chrs w) lo hi = chrs (cutL w lo hi) := cutL_mapL _ _ _ _
theorem chrs_app2 (u v : List Nat) : chrs u ++ chrs v = chrs (u ++ v) := by unfold chrs; rw [List.map_append]
theorem cut_span {α : Type} (l : List α) (a k : Nat) : (cutL l (some (a : Int)) (some ((a : Int) + (k : Int)))).length ≤ k := by
  unfold cutL
  rw [← Int.natCast_add, HT.sIx_nat, HT.sIx_nat, List.length_take]
  omega
def shD (ds : List PV) : Prop := shapeD ds
/-! ## isinstance of a tuple of built-in types, with the answer told -/
def kitAnyB (c : String) : List String → Option Bool
  | [] => some false
  | n :: ns => match kitB c n with
    | some true => some true
    | some false => kitAnyB c ns
    | none => none
theorem kitAny_B {K : PySem.W.Frag} {c : String} : ∀ {ns : List String} {b : Bool}, kitAnyB c ns = some b → PySem.W.kitAny K (.type c) (ns.map .type) = some b := by
  intro ns
  induction ns with
  | nil => intro b h; exact h
  | cons n ns ih =>
    intro b h
    unfold kitAnyB at h
    cases e : kitB c n with
    | none => rw [e] at h; cases h
    | some k =>
      rw [e] at h
      cases k with
      | true =>
        cases h
        exact kitAny_cons (kit_ty (K := K) e) (fun z => nomatch z) (fun _ => rfl)
      | false => exact kitAny_cons (kit_ty (K := K) e) (fun _ => ih h) (fun z => nomatch z)
section
variable {K : PySem.W.Frag} {PO : POk} {X : Cx}
def fIsiT : List PV → (PV → Prop) → Prop := fun ds post => ∃ d ns b, ds = [d, .tup (ns.map .ty)] ∧ (∀ m, d ≠ .ty m) ∧ (∀ k, d ≠ .dK k) ∧ (∀ k, d ≠ .dT k) ∧ d ≠ .pool ∧ (∀ a, d ≠ .obj a) ∧ (∀ ns, d ≠ .scr ns) ∧ kitAnyB d.cls ns = some b ∧ post (.bl b)
theorem clsV_tys {pl : PL} {G : Hp} : ∀ {ns : List String} {vs : List V}, Rl K pl G (ns.map .ty) vs → Paired ClsV vs (ns.map Value.type) := by
  intro ns
  induction ns with
  | nil => intro vs h; rw [rl_nil h]; exact .nil
  | cons n ns ih =>
    intro vs h
    obtain ⟨v, r, rfl, h1, h2⟩ := rl_cons h
    rw [rs_ty h1]
    exact .cons (.ty _) (ih h2)
theorem sn_isiT : SN K PO (rIsiT K) fIsiT := fun {G H pl xs ds Q post} o hx hf hq => by
  obtain ⟨d, ns, b, rfl, n1, n2, n3, n4, n5, n6, hk, hp⟩ := hf
  obtain ⟨x, r, rfl, h1, h2⟩ := rl_cons hx
  obtain ⟨y, r, rfl, h3, h4⟩ := rl_cons h2
  obtain ⟨tp, vs, rfl, w1, w2, _⟩ := rs_tupH h3
  rw [rl_nil h4]
  have fin := hq _ (.bl b) G H pl (Stp.refl o) Rs.bl hp
  refine ⟨x, tp, vs, .type d.cls, ns.map Value.type, b, rfl, o.sub _ _ w1, clsV_tys w2, ?_, kitAny_B hk, fin⟩
  cases d with
  | non => rw [rs_non h1]; exact .base .non
  | bl b => rw [rs_bl h1]; exact .base (.bl b)
  | int i => rw [rs_int h1]; exact .base (.int i)
  | str l => rw [(rs_str h1).1]; exact .base (.str _)
  | tup ds =>
    obtain ⟨a, xs, rfl, k1, _⟩ := rs_tup h1
    exact tyX_T (o.sub.sqT k1)
  | lst ds =>
    obtain ⟨a, xs, rfl, k1, _⟩ := rs_lst h1
    exact .base (.lst (o.sub _ _ k1))
  | dK ds => exact absurd rfl (n2 ds)
  | dT ds => exact absurd rfl (n3 ds)
  | ty m => exact absurd rfl (n1 m)
  | pool => exact absurd rfl n4
  | obj a => exact absurd rfl (n5 a)
  | scr ns => exact absurd rfl (n6 ns)
theorem u_isiSeq {d : PV} {ds : List PV} {post : PV → Prop} (e : d = .tup ds ∨ d = .lst ds) (h : post (.bl true)) : fIsiT [d, .tup [.ty "list", .ty "tuple"]] post := by
  rcases e with rfl | rfl
  · exact ⟨_, ["list", "tuple"], true, rfl, (fun _ z => nomatch z), (fun _ z => nomatch z), (fun _ z => nomatch z), (fun z => nomatch z), (fun _ z => nomatch z), (fun _ z => nomatch z), (show kitAnyB "tuple" ["list", "tuple"] = some true by decide +kernel), h⟩
  · exact ⟨_, ["list", "tuple"], true, rfl, (fun _ z => nomatch z), (fun _ z => nomatch z), (fun _ z => nomatch z), (fun z => nomatch z), (fun _ z => nomatch z), (fun _ z => nomatch z), (show kitAnyB "list" ["list", "tuple"] = some true by decide +kernel), h⟩
/-- no list and no tuple -/
def Leaf (d : PV) : Prop := d = .non ∨ (∃ b, d = .bl b) ∨ (∃ i, d = .int i) ∨ ∃ t, d = .str t
theorem u_isiSeqF {d : PV} {post : PV → Prop} (e : Leaf d) (h : post (.bl false)) : fIsiT [d, .tup [.ty "list", .ty "tuple"]] post := by
  rcases e with rfl | ⟨b, rfl⟩ | ⟨i, rfl⟩ | ⟨t, rfl⟩
  · exact ⟨_, ["list", "tuple"], false, rfl, (fun _ z => nomatch z), (fun _ z => nomatch z), (fun _ z => nomatch z), (fun z => nomatch z), (fun _ z => nomatch z), (fun _ z => nomatch z), (show kitAnyB "NoneType" ["list", "tuple"] = some false by decide +kernel), h⟩
  · exact ⟨_, ["list", "tuple"], false, rfl, (fun _ z => nomatch z), (fun _ z => nomatch z), (fun _ z => nomatch z), (fun z => nomatch z), (fun _ z => nomatch z), (fun _ z => nomatch z), (show kitAnyB "bool" ["list", "tuple"] = some false by decide +kernel), h⟩
  · exact ⟨_, ["list", "tuple"], false, rfl, (fun _ z => nomatch z), (fun _ z => nomatch z), (fun _ z => nomatch z), (fun z => nomatch z), (fun _ z => nomatch z), (fun _ z => nomatch z), (show kitAnyB "int" ["list", "tuple"] = some false by decide +kernel), h⟩
  · exact ⟨_, ["list", "tuple"], false, rfl, (fun _ z => nomatch z), (fun _ z => nomatch z), (fun _ z => nomatch z), (fun z => nomatch z), (fun _ z => nomatch z), (fun _ z => nomatch z), (show kitAnyB "str" ["list", "tuple"] = some false by decide +kernel), h⟩
end
/-! ## a walk over one of two kinds -/
section
variable {K : PySem.W.Frag} {PO : POk} {X : Cx}
theorem pi_or {tg e : Expr} {w1 w2 : TI} (h1 : PI X tg e w1) (h2 : PI X tg e w2) : PI X tg e (fun σ H R => w1 σ H R ∨ w2 σ H R) :=
  ⟨fun pins s σ H R I q => by
    rcases q with q | q
    · exact h1.run pins s σ H R I q
    · exact h2.run pins s σ H R I q⟩
theorem qi_or {tg e : Expr} {w1 w2 : TI} {p1 p2 : PX (List PV)} (h1 : QI K PO X tg e w1 p1) (h2 : QI K PO X tg e w2 p2) : QI K PO X tg e (fun σ H R => w1 σ H R ∨ w2 σ H R) (fun ρ post => p1 ρ post ∨ p2 ρ post) :=
  ⟨pi_or h1.pe h2.pe, fun {B G0 G H pl σ ρ R post} r hp hq => by
    rcases hp with hp | hp
    · exact .inl (h1.sd r hp hq)
    · exact .inr (h2.sd r hp hq)⟩
end
/-! ## enumerate of a tuple -/
theorem meets_enumerate_newT (l : Addr) (items : Array Value) (n : Nat) (dct : Option Addr) (sl : Array (Option Value)) :
    Meets (Builtin.«enumerate.__new__» ⟨[.type "enumerate", .ref l], []⟩) (fun _ R s => s.heap.get? l = some { cls := .type "tuple", dict := dct, data := .seq items n, slots := sl } ∧
      R (.ok (.ret (.ref (s.heap.push { cls := .type "tuple_iterator", data := .fields #[.ref l, .int 0 0] }).objs.size)))
        { s with heap := (s.heap.push { cls := .type "tuple_iterator", data := .fields #[.ref l, .int 0 0] }).push { cls := .type "enumerate", data := .fields #[.none, .bool false, .ref s.heap.objs.size, rawInt 0, .none, .none] } }) :=
  .of_wp fun prog w A R s h => by
    obtain ⟨hp, g, d, tk, os⟩ := s; obtain ⟨hl, h⟩ := h
    have hsub := sub_enumerate
    have hL : Heap.IsTuple (Shared.heap ⟨hp, g, d, tk, os⟩) l items := ⟨_, hl, rfl, n, rfl⟩
    wp_walk using AutoSeq1.wpAny_loadPart' hl
    refine wpAny_stack_any fun st => wpAny_pure ?_
    split
    · rename_i c _ _ _ _ _
      cases (c == Value.type "enumerate")
      · wp_walk using AutoSeq1.wpAny_loadPart' hl, wpAny_pyIter_tuple hL
        exact ⟨_, rfl, h⟩
      · wp_walk using AutoSeq1.wpAny_loadPart' hl, wpAny_pyIter_tuple hL
        exact ⟨_, rfl, h⟩
    · wp_walk using AutoSeq1.wpAny_loadPart' hl, wpAny_pyIter_tuple hL
      exact ⟨_, rfl, h⟩
theorem call_enumerate_tup {prog : Program} {w : World} {A : Around} {E : Value → Shared → Prop} {s : Shared} {l : Addr} {items : Array Value} {Q : Value → Shared → Prop} (hL : s.heap.IsTuple l items)
    (h : ∀ h', IsEnum h' (s.heap.objs.size + 1) s.heap.objs.size 0 .none → h'.IsTupleIter s.heap.objs.size l 0 → h'.IsTuple l items → h'.objs.size = s.heap.objs.size + 2 →
      (∀ b o, s.heap.get? b = some o → h'.get? b = some o) → Q (.ref (s.heap.objs.size + 1)) { s with heap := h' }) :
    wpAny (model prog w) A (call (.type "enumerate") [.ref l]) Q E s := by
  have hL0 := hL
  obtain ⟨⟨c, dct, dt, sl⟩, hl, hc, n, hd⟩ := hL
  replace hc : c = .type "tuple" := hc
  replace hd : dt = .seq items n := hd
  subst hc hd
  refine callType_new F.called_enumerate (by decide) (F.typeCall_enumerate_1 _) (F.newCall_enumerate_1 _) (fun obj => F.args_object_init_2 obj _) F.entry_enumerate_new
    (meets_enumerate_newT l items n dct sl) ⟨hl, ?_⟩
  have hz : (s.heap.push { cls := .type "tuple_iterator", data := .fields #[.ref l, .int 0 0] }).objs.size = s.heap.objs.size + 1 := Heap.size_push ..
  show _ ∧ _
  rw [hz]
  have he : IsEnum ((s.heap.push { cls := .type "tuple_iterator", data := .fields #[.ref l, .int 0 0] }).push
      { cls := .type "enumerate", data := .fields #[.none, .bool false, .ref s.heap.objs.size, rawInt 0, .none, .none] }) (s.heap.objs.size + 1) s.heap.objs.size 0 .none := by
    have := Heap.get?_push_size (s.heap.push { cls := .type "tuple_iterator", data := .fields #[.ref l, .int 0 0] })
      (o := { cls := .type "enumerate", data := .fields #[.none, .bool false, .ref s.heap.objs.size, rawInt 0, .none, .none] }) rfl
    rw [hz] at this; exact this
  exact ⟨⟨_, he, rfl⟩, h _ he ⟨_, Heap.get?_push_of_some _ (Heap.get?_push_size _ rfl), rfl, rfl⟩ ((hL0.push _).push _) (by rw [Heap.size_push, hz]) fun b o x => Heap.get?_push_of_some _ (Heap.get?_push_of_some _ x)⟩
/-- the tuple at a, its items in new pairs -/
def Itet (K : PySem.W.Frag) (a : Addr) : It := ⟨fun i H => ∃ xs x, SqT K H a xs ∧ xs[i]? = some x,
  fun i H v H' => ∃ T x, v = .ref T ∧ H T = none ∧ H' = upd H T (.tup [.int (i : Nat), x]) ∧ ∀ xs, SqT K H a xs → xs[i]? = some x, fun i H => ∃ xs, SqT K H a xs ∧ xs.length = i⟩
theorem turn_enumT {P : Program} {w : World} {K : PySem.W.Frag} {elts : List Expr} {kk : Nat} {tpos : Pos} (a e it : Addr) :
    Turn P w K (.Tuple elts kk tpos) (Itet K a) [e, it] e (fun i h => (∃ old, IsEnum h e it ((i : Nat) : Int) old) ∧ h.IsTupleIter it a i ∧ e ≠ it) where
  mem := by simp
  obj := fun i h st b hb => by
    obtain ⟨⟨old, he⟩, ⟨o, ho, hc, hd⟩, _⟩ := st
    have e' : b = e ∨ b = it := by simpa using hb
    rcases e' with z | z
    · rw [z]; exact ⟨_, he, fun v q => nomatch q⟩
    · rw [z]; exact ⟨o, ho, fun v q => by rw [hd] at q; cases q⟩
  keep := fun i h h' st k => let ⟨⟨old, he⟩, ⟨o, ho, r⟩, hne⟩ := st; ⟨⟨old, k e (by simp) _ he⟩, ⟨o, k it (by simp) o ho, r⟩, hne⟩
  item := by
    intro X hP hw hK hc i pins s σ H E I hf st hg
    subst hP hw hK
    obtain ⟨⟨old, he⟩, hit, hne⟩ := st
    obtain ⟨xs, x, hq, hx⟩ := hg
    obtain ⟨its, rv, p, hz⟩ := I.tuple hq
    obtain ⟨u, hu, ru⟩ := rv.get hx
    have hel : e < s.heap.objs.size := Heap.lt_size he
    have hil : it < s.heap.objs.size := by obtain ⟨_, q, _⟩ := hit; exact Heap.lt_size q
    have hta : a ≠ it := fun z => by
      obtain ⟨o1, q1, q2, _⟩ := p
      obtain ⟨o2, q3, q4, _⟩ := hit
      rw [z, q3] at q1
      cases q1
      rw [q4] at q2
      exact absurd q2 (by decide)
    have D := Draws.tuple (prog := X.prog) (w := X.w) (A := X.A.in1) (I.ok.hd hc) it a hta its.toArray
    have hea : e ≠ a := fun z => by
      obtain ⟨o1, q1, q2, _⟩ := p
      have he' : s.heap.get? e = _ := he
      rw [← z, he'] at q1
      cases q1
      exact absurd (Value.type.inj q2) (by decide)
    have hlt : i < its.toArray.size := by
      have := (List.getElem?_eq_some_iff.mp hu).1
      simpa using this
    refine wpAny_pyNext_enum_itemD D he ⟨hit, p⟩ hlt hne (by simp only [List.mem_cons, List.not_mem_nil, or_false]; exact fun z => z.elim hne hea) fun v h' tk hv ho hit' hT hsz hk => ?_
    have hv' : v = u := by
      have e1 : its[i]? = some v := by simpa using hv
      rw [hu] at e1
      exact (Option.some.inj e1).symm
    subst hv'
    refine ⟨_, rfl, wpAny_letOwnedTupleGo_enum (s := { s with heap := h', toks := tk + 1 }) ho fun h'' he' sb => ?_⟩
    have hT2 : h''.get? s.heap.objs.size = some { cls := .type "tuple", data := .seq #[.int i tk, v] } := (sb.2 _ (Nat.ne_of_gt hel)).trans hT
    have new : ObjOk X.prog X.w (upd H s.heap.objs.size (.tup [.int (i : Nat), x])) h'' s.heap.objs.size (.tup [.int (i : Nat), x]) :=
      ⟨by show 2 ≤ sizeLine; decide, [.int i tk, v], .cons ⟨_, rfl⟩ (.cons ru .nil), ⟨_, hT2, rfl, _, rfl⟩⟩
    have I1 : Inv X pins σ (upd H s.heap.objs.size (.tup [.int (i : Nat), x])) { s with heap := h'', toks := tk + 1 } :=
      I.turnedNew (ch := [e, it]) (fun b ob hb q => (sb.2 b (fun z => hb (by simp [z]))).trans (hk b ob (fun z => hb (by simp [z])) (fun z => hb (by simp [z])) q)) hf (Nat.le_refl _) new
    refine ⟨.ref s.heap.objs.size, _, I1, rfl, ⟨_, x, rfl, I.hok.fresh (Nat.le_refl _), rfl, fun ys hy => ?_⟩, ⟨⟨v, ?_⟩, ?_, hne⟩, fun b hb => ?_⟩
    · rw [I.tuple_inj hy hq]; exact hx
    · have e1 : ((i + 1 : Nat) : Int) = (i : Int) + 1 := by omega
      rw [e1]; exact he'
    · obtain ⟨o, q, r⟩ := hit'.1
      exact ⟨o, (sb.2 it (Ne.symm hne)).trans q, r⟩
    · have hb' : b < s.heap.objs.size := by
        have e' : b = e ∨ b = it := by simpa using hb
        rcases e' with z | z
        · rw [z]; exact hel
        · rw [z]; exact hil
      rw [upd_ne (Nat.ne_of_lt hb')]
      exact (hf b hb).1
  done := by
    intro X hP hw hK hc i pins s σ H E I hf st hg
    subst hP hw hK
    obtain ⟨⟨old, he⟩, hit, hne⟩ := st
    obtain ⟨xs, hq, hx⟩ := hg
    obtain ⟨its, rv, p, hz⟩ := I.tuple hq
    obtain ⟨f0, f1, f2, f3, f4, f5⟩ := hf it (by simp)
    have hta : a ≠ it := fun z => by
      obtain ⟨o1, q1, q2, _⟩ := p
      obtain ⟨o2, q3, q4, _⟩ := hit
      rw [z, q3] at q1
      cases q1
      rw [q4] at q2
      exact absurd q2 (by decide)
    have D := Draws.tuple (prog := X.prog) (w := X.w) (A := X.A.in1) (I.ok.hd hc) it a hta its.toArray
    have hi : i = its.toArray.size := by
      rw [← hx]
      have := rv.length
      simp only [List.size_toArray]
      omega
    subst hi
    exact wpAny_pyNext_enum_endD D he ⟨hit, p⟩ fun h' eb => ⟨rfl, I.turned (t' := s.toks) (fun b o hb q => eb b o hb q) f0 f1 f3 f4 f5⟩
  self := fun A i s Q E st h => let ⟨⟨_, he⟩, _⟩ := st; wpAny_pyIter_enum he h
def iEnumT (K : PySem.W.Frag) (ta : TA) : TI := fun σ H R => ta σ H fun vs H1 => ∃ a xs, vs = [.ref a] ∧ SqT K H1 a xs ∧ R (Itet K a) H1
theorem pi_enumT {X : Cx} {e : Expr} {ta : TA} {p pos tpos : Pos} {elts : List Expr} {kk : Nat} (hg : Gl X "enumerate") (hm : X.mg "enumerate" = none) (ha : PA X [e] ta) (hs : starEach [e] X.env = [(false, eval e X.env)] := by rfl) :
    PI X (.Tuple elts kk tpos) (.Call (.Name "enumerate" p) [e] [] pos) (iEnumT X.K ta) := by
  refine ⟨fun pins s σ H R I h => ?_⟩
  refine Call_ (ld_blt I hg hm boot_enumerate (PyProof.Rows.callWith_type1 (thn (ha.run pos pins s σ H _ I h) fun us s1 ⟨vs, H1, I1, r1, q1⟩ => ?_) hs rfl))
  obtain ⟨a, xs, ex, hq, q⟩ := q1
  subst ex
  cases r1 with
  | cons r rr =>
    cases rr
    cases r
    obtain ⟨its, rv, p', hz⟩ := I1.tuple hq
    refine call_enumerate_tup (show s1.heap.IsTuple a its.toArray from p') fun h' he hit ht hsz hk => wpAny_pyIter_enum he ?_
    have I2 : Inv X pins σ H1 { s1 with heap := h' } := I1.kept (t' := s1.toks) hk
    refine ⟨s1.heap.objs.size + 1, [s1.heap.objs.size + 1, s1.heap.objs.size], _, _, H1, rfl, I2, turn_enumT a (s1.heap.objs.size + 1) s1.heap.objs.size, ⟨⟨.none, he⟩, hit, Nat.succ_ne_self _⟩, fun b hb => ?_, q⟩
    have e' : b = s1.heap.objs.size + 1 ∨ b = s1.heap.objs.size := by simpa using hb
    have hle : s1.heap.objs.size ≤ b := by
      rcases e' with z | z
      · rw [z]; exact Nat.le_add_right _ _
      · rw [z]; exact Nat.le_refl _
    exact I1.fpOk hle (I1.hok.fresh hle)
section
variable {K : PySem.W.Frag} {PO : POk} {X : Cx}
theorem iter_enumT {L : Hp → Hp → PL → Prop} {a : Addr} {ds : List PV} (h : ∀ G H pl, Ok PO G H pl → L G H pl → ∃ xs, SqT K H a xs ∧ Rl K pl G ds xs) : IterOk K PO L (Itet K a) (enumV ds) := iter_pairs fun i G H pl o hl => by
  obtain ⟨xs, h1, h2⟩ := h G H pl o hl
  refine ⟨fun e => ⟨xs, h1, by rw [h2.len]; rw [enumV_len] at e; omega⟩, fun d e => ?_⟩
  obtain ⟨dx, e0, rfl⟩ := enumV_get e
  obtain ⟨x, e1, e2⟩ := h2.get e0
  refine ⟨⟨xs, x, h1, e1⟩, fun v H' q => ?_⟩
  obtain ⟨T, y, rfl, hT, rfl, q⟩ := q
  have := q xs h1
  rw [e1] at this
  cases this
  exact ⟨T, _, _, _, _, rfl, hT, rfl, rfl, Rs.int, e2⟩
def pSrcET (p : PX PV) : PX (List PV) := fun ρ post => p ρ fun d => ∃ ds, d = .tup ds ∧ (ds.length ≤ 16777216 → post (enumV ds))
theorem qi_enumT {elts : List Expr} {kk : Nat} {tpos : Pos} {e : Expr} {t : TE} {p : PX PV} {p0 pos : Pos} (hK : X.K = K) (hg : Gl X "enumerate") (hm : X.mg "enumerate" = none) (h : QX rS K PO X e t p) (hs0 : starEach (e :: []) X.env = (false, eval e X.env) :: starEach [] X.env := by rfl) (hs : starEach [e] X.env = [(false, eval e X.env)] := by rfl) :
    QI K PO X (.Tuple elts kk tpos) (.Call (.Name "enumerate" p0) [e] [] pos) (iEnumT K (tCons t tNil)) (pSrcET p) := by
  subst hK
  refine ⟨pi_enumT hg hm (pa_cons h.pe pa_nil hs0) hs, fun {B G0 G H pl σ ρ R post} r hp hq => h.sd r hp fun v d G1 H1 pl1 s1 hd hp1 => ?_⟩
  obtain ⟨ds, rfl, hp1⟩ := hp1
  obtain ⟨a, xs, rfl, k1, k2, k3⟩ := rs_tup (K := X.K) (pl := pl1) (G := G1) hd
  exact ⟨a, xs, rfl, s1.ok.sub.sqT k1, hq _ _ G1 H1 pl1 s1 (iter_enumT fun G2 H2 pl2 o2 l2 => ⟨xs, o2.sub.sqT (l2.1.sqT k1), Rl.mono l2.1 l2.2 _ _ k2⟩) (by rw [enumV_len]; omega) (hp1 k3)⟩
theorem u_srcET {p : PX PV} {ρ : En} {post : List PV → Prop} (h : p ρ fun d => asT d fun ds => leQ ds.length (post (enumV ds))) : pSrcET p ρ post := h
theorem u_forEI {ds : List PV} {q : PV → En → (En → Prop) → Prop} {p : PSt} {P : PEnds} {ρ : En} (I : Nat → En → Prop) (h0 : I 0 ρ) (hs : ∀ i d ρ1, ds[i]? = some d → I i ρ1 → q (.tup [.int (i : Nat), d]) ρ1 fun ρ2 => p { P with nx := I (i + 1), ct := I (i + 1), bk := P.nx } ρ2) (hd : ∀ ρ1, I ds.length ρ1 → P.nx ρ1) : forQ q p P ρ (enumV ds) := by
  have := u_forE (xs := ds) (f := id) (ρ := ρ) (q := q) (p := p) (P := P) I h0 hs hd
  rwa [List.map_id] at this
end
/-! ## tuple * 1 -/
theorem tuple_mul1 (l : Addr) (items : Array Value) (n : Nat) (dd : Option Addr) (sl : Array (Option Value)) (u : Tok) :
    Meets (Builtin.«tuple.__mul__» ⟨[.ref l, .int 1 u], []⟩) (fun _ R s => s.heap.get? l = some { cls := .type "tuple", dict := dd, data := .seq items n, slots := sl } ∧ R (.ok (.ret (Value.ref l))) s) :=
  .of_wp fun prog w A R s h => by
    obtain ⟨hp, g, d, tk, os⟩ := s
    obtain ⟨hl, h⟩ := h
    have f1 := AutoSeq1.idx_int
    wp_walk using wpAny_loadPart' hl
    exact ⟨_, rfl, h⟩
def rRepTA (K : PySem.W.Frag) : R2 := fun x y H Q => ∃ l k xs, x = .ref l ∧ y = .int k ∧ SqT K H l xs ∧ xs ≠ [] ∧ 1 ≤ k ∧ k ≤ 1000 ∧ xs.length ≤ 1000 ∧ (k = 1 → Q (.ref l) H) ∧ ∀ p, H p = none → Q (.ref p) (upd H p (.tup (List.replicate k.toNat xs).flatten))
section
variable {K : PySem.W.Frag} {PO : POk} {X : Cx}
theorem op_repTA : OpR X (binaryOp .Mult) (rRepTA X.K) := by
  intro pins s σ H x y v u Q I rx ry h
  obtain ⟨l, k, xs, rfl, rfl, hT, hne, h1, h2, hz, q1, q⟩ := h
  by_cases hk : k = 1
  · subst hk
    have q1 := q1 rfl
    cases rx
    obtain ⟨t, rfl⟩ := ry
    obtain ⟨its, r, ⟨⟨cls, dd, data, sl⟩, ho, hc, n, hd⟩, hs⟩ := I.tuple hT
    simp only at hc hd
    subst hc hd
    refine wpAny_binaryOp_repeat_ref (T := "tuple") (U := "int") (by decide) ⟨_, ho, rfl⟩ (fun s' => typeIs_int s' 1 t) noFill_tuple_mul F.fills_int_mul F.slot_int_rmul repeat_tuple F.slot_int_index.lookup
      (call_meets F.slot_int_rmul (typeIs_int s 1 t) F.entry_int_rmul (F.args_int_rmul_2 _ _) (int_rmul_tuple 1 t l its.toArray n dd sl)
        ⟨ho, rfl, ⟨_, ho, rfl⟩, call_meets F.slot_tuple_mul ⟨_, ho, rfl⟩ F.entry_tuple_mul (F.args_tuple_mul_2 _ _) (tuple_mul1 l its.toArray n dd sl t) ⟨ho, ?_⟩⟩)
    exact ⟨.ref l, H, I, rfl, q1⟩
  · exact op_repT pins s σ H _ _ v u Q I rx ry ⟨l, k, xs, rfl, rfl, hT, hne, by omega, h2, hz, q⟩
def fRepT : PV → PV → (PV → Prop) → Prop := fun x y post => ∃ ds k, x = .tup ds ∧ y = .int k ∧ ds ≠ [] ∧ 1 ≤ k ∧ k ≤ 1000 ∧ ds.length ≤ 1000 ∧ post (.tup (rep k ds))
theorem s2_repT : S2 rS rS rS K PO (rRepTA K) fRepT := fun {G H pl x y d e Q post} o hx hy hf hq => by
  obtain ⟨ds, k, rfl, rfl, hne, h1, h2, h3, hp⟩ := hf
  obtain ⟨a, xs, rfl, k1, k2, k3⟩ := rs_tup (K := K) (pl := pl) (G := G) hx
  have hl := k2.len
  refine ⟨a, k, xs, rfl, rs_int (K := K) (pl := pl) (G := G) hy, o.sub.sqT k1, fun e => hne (by subst e; exact List.eq_nil_of_length_eq_zero hl.symm), h1, h2, by omega, fun e => ?_, fun p hn => ?_⟩
  · subst e
    rw [show rep 1 ds = ds by unfold rep; simp] at hp
    exact hq _ (.tup ds) G H pl (Stp.refl o) hx hp
  · have s := Stp.new (u := .tup (List.replicate k.toNat xs).flatten) o hn
    refine hq _ (.tup (rep k ds)) _ _ pl s (Rs.tup upd_same (Rl.mono s.g s.le _ _ (k2.reps _)) ?_) hp
    rw [rep_len]
    have := Nat.mul_le_mul (show k.toNat ≤ 1000 by omega) h3
    omega
theorem u_repT {ds : List PV} {k : Int} {post : PV → Prop} (hne : ds ≠ []) (h1 : 1 ≤ k) (h2 : k ≤ 1000) (h3 : ds.length ≤ 1000) (h : post (.tup (rep k ds))) : fRepT (.tup ds) (.int k) post := ⟨ds, k, rfl, rfl, hne, h1, h2, h3, h⟩
end
/-! ## letters -/
abbrev wLetter : List Nat := [108, 101, 116, 116, 101, 114]
abbrev wOrder : List Nat := [111, 114, 100, 101, 114]
/-! ## the first fault -/
def scan (f : Nat → Option (List Nat)) : Nat → Nat → Option (Int × List Nat)
  | _, 0 => none
  | i, n + 1 => match f i with
    | some w => some ((i : Nat), w)
    | none => scan f (i + 1) n
theorem scan_hit {f : Nat → Option (List Nat)} {w : List Nat} : ∀ (n i k : Nat), k < n → (∀ j, j < k → f (i + j) = none) → f (i + k) = some w → scan f i n = some (((i + k : Nat) : Int), w)
  | 0, i, k, h, _, _ => absurd h (Nat.not_lt_zero _)
  | n + 1, i, 0, _, _, h2 => by
    unfold scan
    rw [Nat.add_zero] at h2
    rw [h2]
    rfl
  | n + 1, i, k + 1, h, h1, h2 => by
    unfold scan
    have := h1 0 (by omega)
    rw [Nat.add_zero] at this
    rw [this]
    show scan f (i + 1) n = _
    rw [scan_hit n (i + 1) k (by omega) (fun j hj => by rw [show i + 1 + j = i + (j + 1) by omega]; exact h1 (j + 1) (by omega)) (by rw [show i + 1 + k = i + (k + 1) by omega]; exact h2), show i + 1 + k = i + (k + 1) by omega]
theorem scan_no {f : Nat → Option (List Nat)} : ∀ (n i : Nat), (∀ j, j < n → f (i + j) = none) → scan f i n = none
  | 0, _, _ => rfl
  | n + 1, i, h => by
    unfold scan
    have := h 0 (by omega)
    rw [Nat.add_zero] at this
    rw [this]
    exact scan_no n (i + 1) fun j hj => by rw [show i + 1 + j = i + (j + 1) by omega]; exact h (j + 1) (by omega)
theorem scan0 {f : Nat → Option (List Nat)} {w : List Nat} {n k : Nat} (h : k < n) (h1 : ∀ j, j < k → f j = none) (h2 : f k = some w) : scan f 0 n = some (((k : Nat) : Int), w) := by
  have := scan_hit (f := f) n 0 k h (fun j hj => by rw [Nat.zero_add]; exact h1 j hj) (by rw [Nat.zero_add]; exact h2)
  rwa [Nat.zero_add] at this
theorem scan0n {f : Nat → Option (List Nat)} {n : Nat} (h : ∀ j, j < n → f j = none) : scan f 0 n = none := scan_no n 0 fun j hj => by rw [Nat.zero_add]; exact h j hj
/-- a bad place makes a fault -/
theorem scan_some {f : Nat → Option (List Nat)} : ∀ (n i k : Nat), k < n → f (i + k) ≠ none → scan f i n ≠ none
  | 0, _, _, h, _ => absurd h (Nat.not_lt_zero _)
  | n + 1, i, k, h, h2 => by
    unfold scan
    cases e : f i with
    | some w => exact fun z => nomatch z
    | none =>
      cases k with
      | zero => rw [Nat.add_zero] at h2; exact absurd e h2
      | succ k => exact scan_some n (i + 1) k (by omega) (by rw [show i + 1 + k = i + (k + 1) by omega]; exact h2)
def fL (t : List Nat) (j : Nat) : Option (List Nat) := if t.getD j 0 ∉ al52 then some wLetter else if 0 < j ∧ ¬ t.getD (j - 1) 0 < t.getD j 0 then some wOrder else none
def letF (t : List Nat) : Option (Int × List Nat) := if t = [] ∨ 6 < t.length then some (-1, wLimit) else scan (fL t) 0 t.length
structure Let (ls : List Nat) : Prop where
  al : ∀ c ∈ ls, c ∈ al52
  up : ls.Pairwise (· < ·)
  le : ls.length ≤ 6
  pos : 0 < ls.length
def sp_lettersM : SpV := fun ds post => ∃ m : Nat, ds = [.pool, .int m] ∧ 1 ≤ m ∧ m ≤ 6 ∧ ∀ ls : List Nat, Let ls → post (.sh (.str ls))
theorem pw_getD {ls : List Nat} (h : ls.Pairwise (· < ·)) {j : Nat} (hj : j < ls.length) (h0 : 0 < j) : ls.getD (j - 1) 0 < ls.getD j 0 := by
  have := List.pairwise_iff_getElem.mp h (j - 1) j (by omega) hj (by omega)
  rw [List.getD_eq_getElem?_getD, List.getD_eq_getElem?_getD, List.getElem?_eq_getElem (by omega), List.getElem?_eq_getElem hj]
  exact this
theorem getD_mem' {ls : List Nat} {j : Nat} (hj : j < ls.length) : ls.getD j 0 ∈ ls := by
  rw [List.getD_eq_getElem?_getD, List.getElem?_eq_getElem hj]
  exact List.getElem_mem hj
theorem letF_right {ls : List Nat} (h : Let ls) : letF ls = none := by
  unfold letF
  rw [if_neg (by
    rintro (z | z)
    · have := h.pos; rw [z] at this; cases this
    · have := h.le; omega)]
  refine scan0n fun j hj => ?_
  unfold fL
  rw [if_neg (fun z => z (h.al _ (getD_mem' hj))), if_neg (fun z => z.2 (pw_getD h.up hj z.1))]
theorem letF_at {t : List Nat} {k : Nat} (hk : k < t.length) (h : fL t k ≠ none) : letF t ≠ none := by
  unfold letF
  split
  · exact fun z => nomatch z
  · exact scan_some t.length 0 k hk (by rw [Nat.zero_add]; exact h)
theorem letF_bad {t : List Nat} {c : Nat} (hc : c ∈ t) (h : c ∉ al52) : letF t ≠ none := by
  obtain ⟨k, hk⟩ := List.getElem?_of_mem hc
  refine letF_at (List.getElem?_eq_some_iff.mp hk).1 ?_
  unfold fL
  rw [List.getD_eq_getElem?_getD, hk, if_pos (show (some c).getD 0 ∉ al52 from h)]
  exact fun z => nomatch z
theorem letF_desc {t : List Nat} {k : Nat} (hk : k + 1 < t.length) (h : t.getD (k + 1) 0 ≤ t.getD k 0) : letF t ≠ none := by
  refine letF_at hk ?_
  unfold fL
  split
  · exact fun z => nomatch z
  · rw [if_pos ⟨by omega, by rw [Nat.add_sub_cancel]; omega⟩]
    exact fun z => nomatch z
theorem letF_limit {t : List Nat} (h : t = [] ∨ 6 < t.length) : letF t ≠ none := by
  unfold letF
  rw [if_pos h]
  exact fun z => nomatch z
theorem put_len {t s : List Nat} {i : Nat} (h : i < t.length) : (t.take i ++ s ++ t.drop (i + 1)).length = t.length + s.length - 1 := by
  rw [List.length_append, List.length_append, List.length_take, List.length_drop]
  omega
theorem atI_ex {α : Type} {l : List α} {k : Nat} (h : k < l.length) : ∃ d, atI l (k : Int) = some d ∧ d ∈ l := by
  refine ⟨l[k], ?_, List.getElem_mem h⟩
  unfold atI
  rw [ixN_n h]
  exact List.getElem?_eq_getElem h
theorem ints_of {P : Int → Prop} : ∀ {ys : List PV}, (∀ y ∈ ys, ∃ k : Int, y = .int k ∧ P k) → ∃ is : List Int, ys = is.map .int ∧ is.length = ys.length ∧ ∀ k ∈ is, P k
  | [], _ => ⟨[], rfl, rfl, fun _ h => nomatch h⟩
  | y :: ys, h => by
    obtain ⟨is, e, hl, hp⟩ := ints_of (ys := ys) fun z hz => h z (List.mem_cons_of_mem _ hz)
    obtain ⟨k, rfl, hk⟩ := h y List.mem_cons_self
    refine ⟨k :: is, by rw [e]; rfl, by rw [List.length_cons, List.length_cons, hl], fun j hj => ?_⟩
    rcases List.mem_cons.mp hj with rfl | hj
    · exact hk
    · exact hp j hj
theorem rngV_at0 {n i : Nat} {d : PV} (h : (rngV 0 n)[i]? = some d) : i < n ∧ d = .int (i : Nat) := by
  obtain ⟨h1, h2⟩ := rngV_get h
  exact ⟨h1, by rw [h2, Int.zero_add]⟩
theorem cut_init {α : Type} (l : List α) : (cutL l none (some (-1))).length = l.length - 1 := by
  unfold cutL
  rw [HT.sIx_none, List.drop_zero, List.length_take, Nat.sub_zero]
  show min (if (-1 : Int) < 0 then ((-1 : Int) + (l.length : Int)).toNat else min (-1 : Int).toNat l.length) l.length = _
  rw [if_pos (by omega)]
  omega
theorem u_seqSrc {i : Nat} {d : PV} {es : List PV} {ρ : En} {post : List PV → Prop} (h1 : ρ[i]? = some (some (.sh d))) (hk : d = .tup es ∨ d = .lst es) (h : es.length ≤ 16777216 → post es) : pSrcL (pVar i) ρ post ∨ pSrcT (pVar i) ρ post := by
  rcases hk with rfl | rfl
  · exact .inr ⟨_, h1, es, rfl, h⟩
  · exact .inl ⟨_, h1, es, rfl, h⟩
/-! ## sorted(d), d a dict whose keys are tuples of ints and texts -/
def kI : Key → Int ⊕ List Nat
  | .inl i => .inl i
  | .inr x => .inr x.cps.toList
def ShpK (shape : Nat → Bool) : Nat → List Key → Prop
  | _, [] => True
  | i, .inl _ :: r => shape i = false ∧ ShpK shape (i + 1) r
  | i, .inr _ :: r => shape i = true ∧ ShpK shape (i + 1) r
abbrev leK (x y : List Key) : Prop := lexLt itemOrd (y.map kI) (x.map kI) = false
theorem shpK_items {shape : Nat → Bool} : ∀ (ks : List Key) (i : Nat) (us : List Value), Vals (ks.map kV) us → ShpK shape i ks → tupItems shape i us = some (ks.map kI)
  | [], i, us, r, _ => by
    cases r
    unfold tupItems
    rfl
  | .inl n :: ks, i, us, r, h => by
    cases r with
    | cons r0 r1 =>
      obtain ⟨t, rfl⟩ := r0
      have ih := shpK_items ks (i + 1) _ r1 h.2
      simp only [tupItems, h.1, ih]
      rfl
  | .inr x :: ks, i, us, r, h => by
    cases r with
    | cons r0 r1 =>
      obtain ⟨t, rfl⟩ := r0
      have ih := shpK_items ks (i + 1) _ r1 h.2
      simp only [tupItems, h.1, ih]
      rfl
theorem pgetB {α β : Type} {F : α → β → Prop} {l : List α} {m : List β} (p : Paired F l m) : ∀ {j : Nat} {x : β}, m[j]? = some x → ∃ y, l[j]? = some y ∧ F y x := by
  induction p with
  | nil => intro j x e; simp at e
  | cons f _ ih =>
    intro j x e
    cases j with
    | zero =>
      cases e
      exact ⟨_, rfl, f⟩
    | succ j => exact ih (j := j) e
def rSortDT : List V → Hp → VK → Prop := fun vs H Q => ∃ (a : Addr) (kvs : List (List Key × V)) (shape : Nat → Bool), vs = [.ref a] ∧ Rd H a (.dT kvs) ∧ (∀ kv ∈ kvs, kv.1 ≠ [] ∧ ShpK shape 0 kv.1) ∧
  ∀ (bs : List (List Key × Addr)) p, (bs.map (·.1)).Perm (kvs.map (·.1)) → (bs.map (·.1)).Pairwise leK → (∀ z ∈ bs, H z.2 = some (.tup (z.1.map kV))) → H p = none → Q (.ref p) (upd H p (.lst (bs.map fun z => V.ref z.2)))
theorem size_ent {es : Array DictEntry} {κ : Type} {xs : List κ} {f : κ → DictEntry} (h : es.toList = xs.map f) : es.size = xs.length := by
  have := congrArg List.length h
  rwa [Array.length_toList, List.length_map] at this
theorem cr_sortDT {X : Cx} (hc : X.calm = true) : CallR X (.builtin "sorted") rSortDT := by
  intro pins s σ H xs us Q I r h
  obtain ⟨a, kvs, shape, rfl, hd, hsh, q⟩ := h
  obtain ⟨u, rfl, rx⟩ := r.one
  cases rx
  obtain ⟨z, lo, xs, rel, o, es, ep, ho, hx, hdat, hes, nd⟩ := (show ObjOk X.prog X.w H s.heap a (.dT kvs) from hd.ok I.hok)
  have l1 : kvs.length = xs.length := Paired.length rel
  have l2 : es.size = xs.length := size_ent hes
  have hn : es.size ≤ sizeLine := by omega
  refine Calls.call_function_entry kind_sorted plain_sorted entry_sorted (args_sorted1 _) ?_
  unfold Builtin.«sorted»
  refine wpAny_bind (m := checkCount "sorted" 1 1 _) (wpAny_pure ?_)
  refine wpAny_bind (PySem.W.kdu_collect (A := X.A.in1) (kdl_raw (es := es) (ep := ep) lo hx hdat) (I.ok.hd hc) ho hn fun h' tk acc hk hacc => ?_)
  have hall : acc.toList.length = xs.length := by rw [Array.length_toList, hacc.1, l2]
  -- the keys, with where they stand
  have hks : acc.toList = (xs.map fun x => (x.1, x.2.1)).map fun z => Value.ref z.2 := by
    apply List.ext_getElem?
    intro j
    rw [List.map_map, List.getElem?_map]
    cases hj : xs[j]? with
    | none =>
      have : xs.length ≤ j := List.getElem?_eq_none_iff.mp hj
      rw [List.getElem?_eq_none (by omega)]
      rfl
    | some x =>
      have hlt : j < acc.toList.length := by rw [hall]; exact (List.getElem?_eq_some_iff.mp hj).1
      obtain ⟨en, he, hv⟩ := hacc.2 j acc.toList[j] (by rw [← Array.getElem?_toList]; exact List.getElem?_eq_getElem hlt)
      rw [List.getElem?_eq_getElem hlt, hv]
      rw [← Array.getElem?_toList, hes, List.getElem?_map, hj] at he
      cases he
      rfl
  have hH : ∀ z ∈ xs.map (fun x => (x.1, x.2.1)), H z.2 = some (.tup (z.1.map kV)) ∧ z.1 ≠ [] ∧ ShpK shape 0 z.1 := fun z hz => by
    obtain ⟨x, hx', rfl⟩ := List.mem_map.mp hz
    obtain ⟨j, hj⟩ := List.mem_iff_getElem?.mp hx'
    obtain ⟨y, hy, e1, e2, _⟩ := pgetB rel hj
    have hs := hsh y (List.mem_of_getElem? hy)
    rw [e1] at hs e2
    exact ⟨e2, hs⟩
  generalize hbs : xs.map (fun x => (x.1, x.2.1)) = bs0 at hks hH
  have hkeys : bs0.map (·.1) = kvs.map (·.1) := by
    rw [← hbs, List.map_map]
    apply List.ext_getElem?
    intro j
    rw [List.getElem?_map, List.getElem?_map]
    cases hj : xs[j]? with
    | none =>
      have : xs.length ≤ j := List.getElem?_eq_none_iff.mp hj
      rw [List.getElem?_eq_none (by omega)]
      rfl
    | some x =>
      obtain ⟨y, hy, e1, _⟩ := pgetB rel hj
      rw [hy]
      exact congrArg some e1.symm
  have I1 : Inv X pins σ H { s with heap := h', toks := tk } := I.kept hk
  refine wpAny_bind (wpAny_newList ?_ (by rw [hall, ← l2]; exact hn))
  have hoL : (h'.push (seqObj "list" acc.toList.toArray 0)).get? h'.objs.size = some (seqObj "list" acc.toList.toArray 0) := Heap.get?_push_size _ rfl
  show wpAny _ _ _ _ _ { s with heap := h'.push (seqObj "list" acc.toList.toArray 0), toks := tk }
  have tup : ∀ z ∈ bs0, ∃ its ob n, Vals (z.1.map kV) its ∧ (h'.push (seqObj "list" acc.toList.toArray 0)).get? z.2 = some ob ∧ ob.cls = .type "tuple" ∧ ob.data = .seq its.toArray n ∧ z.1 ≠ [] ∧ ShpK shape 0 z.1 := fun z hz => by
    obtain ⟨e, h1, h2⟩ := hH z hz
    obtain ⟨_, its, rv, ob, g1, g2, n, g3⟩ := (show ObjOk X.prog X.w H s.heap z.2 (.tup (z.1.map kV)) from I.hok z.2 _ e)
    exact ⟨its, ob, n, rv, Heap.get?_push_of_some _ (hk _ _ g1), g2, g3, h1, h2⟩
  generalize hh2 : h'.push (seqObj "list" acc.toList.toArray 0) = h2 at hoL tup ⊢
  have ky : ∀ z ∈ bs0, G.tupKeyC h2 shape (.ref z.2) = some (z.1.map kI) := fun z hz => by
    obtain ⟨its, ob, n, rv, g1, g2, g3, _, g4⟩ := tup z hz
    unfold G.tupKeyC
    have e1 : G.isTupObj h2 (.ref z.2) = true := by simp [G.isTupObj, g1, g2]
    rw [if_pos e1]
    simp only [tupKey, g1, g3]
    exact shpK_items z.1 0 _ (by simpa using rv) g4
  have hT : ∃ fs, TupsOf h2 shape acc.toList fs := by
    rw [hks]
    clear hks hkeys hbs ky
    induction bs0 with
    | nil => exact ⟨[], .nil⟩
    | cons z bs0 ih =>
      obtain ⟨fs, hfs⟩ := ih (fun y hy => hH y (List.mem_cons_of_mem _ hy)) (fun y hy => tup y (List.mem_cons_of_mem _ hy))
      obtain ⟨its, ob, n, rv, g1, g2, g3, g5, g4⟩ := tup z List.mem_cons_self
      match hz : z.1, rv, g5, g4 with
      | [], _, g5, _ => exact absurd rfl g5
      | .inl i :: r, rv, _, g4 =>
        cases rv with
        | cons r0 r1 =>
          obtain ⟨t, rfl⟩ := r0
          refine ⟨_ :: fs, .cons ⟨z.2, ob, _, n, rfl, g1, g2, g3, ?_, fun _ => ⟨i, t, rfl⟩, fun e => ?_⟩ hfs⟩
          · simp
          · rw [g4.1] at e; cases e
      | .inr x :: r, rv, _, g4 =>
        cases rv with
        | cons r0 r1 =>
          obtain ⟨t, rfl⟩ := r0
          refine ⟨_ :: fs, .cons ⟨z.2, ob, _, n, rfl, g1, g2, g3, ?_, fun e => ?_, fun _ => ⟨x, t, rfl⟩⟩ hfs⟩
          · simp
          · rw [g4.1] at e; cases e
  obtain ⟨fs, hT⟩ := hT
  refine wpAny_bind (wpAny_holding (wpAny_call_entry slot_list_sort ⟨_, hoL, rfl⟩ entry_list_sort
    (G.list_sort_tups (s := { s with heap := h2, toks := tk }) (shape := shape) hoL hT (fun v hv => ?_) (by rw [hall, ← l2]; exact hn) fun st' hp hs _ => ⟨_, rfl, ?_⟩)
    (args_list_sort _)))
  · rw [hks] at hv
    obtain ⟨z, hz, rfl⟩ := List.mem_map.mp hv
    exact ⟨_, ky z hz⟩
  · have hp2 : (arrOf st').toList.Perm (acc.toList.zip acc.toList) := by
      have e := Array.perm_iff_toList_perm.mp hp
      rwa [pairsOf_toList] at e
    have hzz : bs0.map (fun z => (Value.ref z.2, Value.ref z.2)) = acc.toList.zip acc.toList := by
      rw [hks]
      clear hks hkeys hbs ky hH tup
      induction bs0 with
      | nil => rfl
      | cons z r ih =>
        rw [List.map_cons, List.map_cons, List.zip_cons_cons, ih]
    obtain ⟨zs, pz, ez⟩ := perm_lift (fun z : List Key × Addr => (Value.ref z.2, Value.ref z.2)) hp2 bs0 hzz
    have hout : ((arrOf st').map (·.2)).toList = zs.map fun z => Value.ref z.2 := by
      rw [Array.toList_map, ← ez, List.map_map]
      rfl
    obtain ⟨e', he'⟩ := sortedHeap_at (vs := acc.toList) (out := (arrOf st').map (·.2)) hoL
    have hlen : (zs.map fun z => V.ref z.2).length ≤ sizeLine := by
      have h1 := congrArg List.length hks
      rw [List.length_map] at h1
      rw [List.length_map, pz.length_eq, ← h1, hall, ← l2]
      exact hn
    refine wpAny_pure ⟨_, rfl, .ref h'.objs.size, upd H h'.objs.size (.lst (zs.map fun z => V.ref z.2)), I1.laid (t' := tk) (fun b u e => ?_) (Nat.le_refl _)
      (show ObjOk X.prog X.w _ _ _ (.lst (zs.map fun z => V.ref z.2)) from ⟨hlen, ((arrOf st').map (·.2)).toList, e', ?_, by rw [Array.toArray_toList]; exact he'⟩), rfl, q zs _ ?_ ?_ (fun z hz => (hH z (pz.mem_iff.mp hz)).1) (I1.hok.fresh (Nat.le_refl _))⟩
    · have hb : b < h'.objs.size := Heap.lt_size e
      rw [sortedHeap_old (Nat.ne_of_lt hb) (by rw [← hh2, size_push']; exact Nat.lt_succ_of_lt hb), ← hh2]
      exact Heap.get?_push_of_some _ e
    · rw [hout]
      exact vals_maps (fun z : List Key × Addr => V.ref z.2) (fun z => Value.ref z.2) zs fun _ _ => rfl
    · rw [← hkeys]
      exact pz.map _
    · rw [List.pairwise_map, List.pairwise_iff_getElem]
      intro i j hi hj hij
      have hsz : (pairsOf acc.toList).size = zs.length := by
        have h1 := congrArg List.length hks
        rw [List.length_map] at h1
        rw [pairsOf_size, pz.length_eq, ← h1]
      have k := hs i j (Nat.le_of_lt hij) (by rw [hsz]; exact hj)
      have kk : ∀ m (hm : m < zs.length), KK (G.tupKindC h2 shape) (arrOf st') m = (zs[m].1).map kI := fun m hm => by
        unfold KK
        have e1 : (arrOf st')[m]? = some (Value.ref zs[m].2, Value.ref zs[m].2) := by
          rw [← Array.getElem?_toList, ← ez, List.getElem?_map, List.getElem?_eq_getElem hm]
          rfl
        rw [e1]
        show (G.tupKeyC h2 shape (.ref zs[m].2)).getD _ = _
        rw [ky _ (pz.mem_iff.mp (List.getElem_mem hm))]
        rfl
      rw [kk i hi, kk j hj] at k
      exact k
/-! ## sets of plain keys, told weakly: every member is one of those allowed, there are no more than n -/
section
variable {P : Program} {w : World} {κ : Type} [DecidableEq κ] {knd : PySem.KeyKind P w κ} {M : κ → Prop} {n : Nat} {h h' : Heap} {a : Addr}
def MemG (knd : PySem.KeyKind P w κ) (M : κ → Prop) (e : Int × Value) : Prop := (∃ k, M k ∧ knd.is k e.2 = true ∧ e.1 = knd.hash k) ∧ e.2.scannable = true
structure TabG (w : World) (n : Nat) (es : Array (Int × Value)) (t : SetTable) : Prop where
  few : es.size ≤ n
  small : es.size < scanBound
  fits : t.fits es.size = true
  ris : Ris t.place.toList
  led : w.params.followText "set-order" = true ∨ t.led = true
  pos : 0 < n → 0 < es.size
def SetG (knd : PySem.KeyKind P w κ) (M : κ → Prop) (n : Nat) (h : Heap) (a : Addr) : Prop :=
  ∃ o es ep t, h.get? a = some o ∧ o.ExactSet ∧ o.data = .set es ep t ∧ (∀ e ∈ es.toList, MemG knd M e) ∧ TabG w n es t
theorem SetG.keep (x : SetG knd M n h a) (k : ∀ o, h.get? a = some o → h'.get? a = some o) : SetG knd M n h' a := by
  obtain ⟨o, es, ep, t, ho, rest⟩ := x
  exact ⟨o, es, ep, t, k o ho, rest⟩
theorem memG_elems {l : List (Int × Value)} (g : ∀ e ∈ l, MemG knd M e) : ElemsOf knd l := fun e he => by
  obtain ⟨⟨k, _, h1, h2⟩, h3⟩ := g e he
  exact ⟨⟨k, h1, h2⟩, h3⟩
end
section
variable {P : Program} {w : World} {A : Around} {E : Value → Shared → Prop} {s : Shared} {κ : Type} [DecidableEq κ] {knd : PySem.KeyKind P w κ} {M : κ → Prop} {a : Addr} {n : Nat}
/-- the entries are laid down, and once more if the table was too full -/
theorem setG_lay {say : Bool → Sem Unit} (hsay : ∀ (b : Bool) (z : Shared) (R : Unit → Shared → Prop), R () z → wpAny (model P w) A (say b) R E z)
    {o : Obj} {es0 es1 : Array (Int × Value)} {ep : Nat} {t0 t1 : SetTable} (ho : s.heap.get? a = some o) (hex : o.ExactSet) (hd : o.data = .set es0 ep t0)
    (g1 : ∀ e ∈ es1.toList, MemG knd M e) (T : TabG w n es1 t1) {dummy : Bool} {R : Option Bool → Shared → Prop}
    (hR : ∀ z, Heap.SameBut a s.heap z → SetG knd M n z a → R (some true) { s with heap := z }) :
    wpAny (model P w) A (do
        storeSet a es1 t1
        if (!dummy && t1.tooFull) = true then do
            say (relayAll t1 es1 (SetTable.grown es1.size)).2.2
            storeSet a (relayAll t1 es1 (SetTable.grown es1.size)).1 (relayAll t1 es1 (SetTable.grown es1.size)).2.1
            pure (some true)
          else pure (some true)) R E s := by
  refine wpAny_bind (wpAny_storeSet_of ho hd ?_ (fits_of_scanBound T.small))
  have st1 := store_at (es' := es1) (t' := t1) ho hd
  have but1 := Heap.SameBut.update s.heap a (Obj.putSet es1 t1)
  by_cases full : (!dummy && t1.tooFull) = true
  · rw [if_pos full]
    have perm := relayAll_perm t1 es1 (SetTable.grown es1.size)
    have T2 : TabG w n (relayAll t1 es1 (SetTable.grown es1.size)).1 (relayAll t1 es1 (SetTable.grown es1.size)).2.1 := by
      have same : (relayAll t1 es1 (SetTable.grown es1.size)).1.size = es1.size := by rw [← Array.length_toList, perm.length_eq, Array.length_toList]
      exact ⟨by rw [same]; exact T.few, by rw [same]; exact T.small, relayAll_fits t1 es1 (SetTable.grown es1.size), relayAll_ris t1 es1 (SetTable.grown es1.size),
        T.led.imp id fun q => by rw [relayAll_led t1 es1 (SetTable.grown es1.size)]; exact q, fun q => by rw [same]; exact T.pos q⟩
    generalize relayAll t1 es1 (SetTable.grown es1.size) = Y at perm T2 ⊢
    obtain ⟨es2, t2, gave⟩ := Y
    refine wpAny_bind (hsay _ _ _ ?_)
    refine wpAny_bind (wpAny_storeSet_of st1 rfl ?_ (fits_of_scanBound T2.small))
    exact wpAny_pure (hR _ (but1.trans (Heap.SameBut.update _ a _)) ⟨_, es2, _, t2, store_at (es' := es2) (t' := t2) st1 rfl, hex, rfl, fun e he => g1 e (perm.mem_iff.mp he), T2⟩)
  · rw [if_neg full]
    exact wpAny_pure (hR _ but1 ⟨_, es1, _, t1, st1, hex, rfl, g1, T⟩)
/-- a key is added -/
theorem setG_add {x : Value} {k : κ} {Q : Bool → Shared → Prop} (hk : knd.is k x = true) (hsc : x.scannable = true) (hM : M k) (S : SetG knd M n s.heap a) (room : n + 1 < scanBound)
    (hQ : ∀ b z, Heap.SameBut a s.heap z → SetG knd M (n + 1) z a → Q b { s with heap := z }) : wpAny (model P w) A (setAddHashed a x (knd.hash k)) Q E s := by
  obtain ⟨o, es, ep, t, ho, hex, hd, g, T⟩ := S
  have els : ElemsOf knd es.toList := memG_elems g
  unfold setAddHashed setAddHashedIn
  refine wpAny_holding (wpAny_bind (wpAny_setState_of ho hd T.fits ?_))
  dsimp only
  rw [byScan_of hsc T.small els]
  simp only [↓reduceIte]
  unfold setAddByScan
  refine wpAny_bind ?_
  refine wpAny_bind (wpAny_rule ?_)
  refine wpAny_bind (wpAny_setScan_of hk ho hd T.fits els ?_)
  cases found : List.findIdx? (fun e => knd.is k e.2) es.toList with
  | some j =>
    dsimp only
    exact wpAny_pure (wpAny_pure (hQ false s.heap (Heap.SameBut.refl a s.heap) ⟨o, es, ep, t, ho, hex, hd, g, ⟨Nat.le_succ_of_le T.few, T.small, T.fits, T.ris, T.led, fun _ => by
      have := (List.findIdx?_eq_some_iff_getElem.mp found).1
      rw [Array.length_toList] at this
      omega⟩⟩))
  | none =>
    dsimp only
    have perm := layNew_perm t es (knd.hash k) x
    have fits := layNew_fits t es (knd.hash k) x
    have ris := layNew_ris t es (knd.hash k) x T.ris
    have led : w.params.followText "set-order" = true ∨ (layNew t es (knd.hash k) x).2.1.led = true := T.led.imp id fun q => by rw [layNew_led t es (knd.hash k) x]; exact q
    generalize layNew t es (knd.hash k) x = Y at perm fits ris led ⊢
    obtain ⟨es1, t1, dummy, gave⟩ := Y
    dsimp only at perm fits ris led ⊢
    rw [Array.toList_push] at perm
    have g1 : ∀ e ∈ es1.toList, MemG knd M e := fun e he => by
      rcases List.mem_append.mp (perm.mem_iff.mp he) with q | q
      · exact g e q
      · rw [List.mem_singleton.mp q]
        exact ⟨⟨k, hM, hk, rfl⟩, hsc⟩
    have size : es1.size = es.size + 1 := by rw [← Array.length_toList, perm.length_eq, List.length_append, Array.length_toList]; rfl
    have few : es1.size ≤ n + 1 := by have := T.few; omega
    have small : es1.size < scanBound := by omega
    refine wpAny_bind ?_
    have said : ∀ (b : Bool) {z : Shared} {R : Unit → Shared → Prop}, R () z → wpAny (model P w) A (match b with | true => rule "set.scan.the-table-gave-way" | false => pure ()) R E z :=
      fun b z R q => by cases b with
        | true => exact wpAny_rule q
        | false => exact wpAny_pure q
    refine said _ ?_
    split
    · refine wpAny_bind ?_
      rw [hashByValue_scannable 8 hsc]
      refine wpAny_pure ?_
      refine setG_lay (n := n + 1) ?_ ho hex hd g1 ⟨few, small, ?_, ?_, ?_, fun _ => by omega⟩ ?_
      · intro b z R q; cases b <;> first | exact wpAny_pure q | exact wpAny_rule q
      · first | (split <;> first | exact fits | exact SetTable.fits_plain_off fits) | exact fits
      · first | (split <;> exact ris) | exact ris
      · first | (split <;> exact led) | exact led
      · intro z but S2; dsimp only; exact wpAny_pure (hQ true z but S2)
    · refine wpAny_bind (wpAny_pure ?_)
      simp only [↓reduceIte]
      refine setG_lay (n := n + 1) ?_ ho hex hd g1 ⟨few, small, fits, ris, led, fun _ => by omega⟩ ?_
      · intro b z R q; cases b <;> first | exact wpAny_pure q | exact wpAny_rule q
      · intro z but S2; dsimp only; exact wpAny_pure (hQ true z but S2)
end
section
variable {P : Program} {w : World} {A : Around} {E : Value → Shared → Prop} {s : Shared}
/-- the turns of set.update over a list of texts -/
theorem setG_turns {I : Addr} {fp wr : List Addr} {G : Array GenState → Array GenState → Prop} {n : Nat} {Pv : Nat → Value → Prop} {St : Nat → Shared → Prop} {R : Result → Shared → Prop} {M : Str → Prop}
    (W : WalksS P w A.in1 I fp wr G n Pv St) (S : Addr) (hSf : S ∉ fp) (hb : n + 1 < scanBound) (hv : ∀ i v, Pv i v → ∃ x t, M x ∧ v = Value.str x t) :
    ∀ (k i : Nat) (z : Shared), n - i = k → i ≤ n → St i z → SetG (PySem.strKind P w) M i z.heap S →
      (∀ z', Moved (S :: wr) G z z' → SetG (PySem.strKind P w) M n z'.heap S → R (.ok (.ret .none)) z') →
      codeAny (model P w) A (.builtin "set.update.loop" ⟨[.ref S, .ref I], []⟩) R z := by
  have hSw : S ∉ wr := fun q => hSf (W.sub _ q)
  have more : ∀ b ∈ wr, b ∈ S :: wr := fun b q => List.mem_cons_of_mem _ q
  intro k
  induction k with
  | zero =>
    intro i z hk hi hst hS fin
    have e : i = n := by omega
    subst e
    refine codeAny_builtin F.entry_set_update_loop ?_
    rw [Around.under_plainId F.plain_set_update_loop _]
    show wpAny _ A.in1 (pyNext (.ref I) >>= _) _ _ z
    refine wpAny_bind (W.done z _ _ hst fun z' mv => ?_)
    show wpAny _ A.in1 (ret Value.none) _ _ z'
    exact wpAny_pure (fin z' (mv.mono more) (hS.keep fun o q => mv.heap S o hSw q))
  | succ k ih =>
    intro i z hk hi hst hS fin
    have lt : i < n := by omega
    refine codeAny_builtin F.entry_set_update_loop ?_
    rw [Around.under_plainId F.plain_set_update_loop _]
    show wpAny _ A.in1 (pyNext (.ref I) >>= _) _ _ z
    refine wpAny_bind (W.item i z _ _ lt hst fun v z' hp hst' mv => ?_)
    obtain ⟨x, t, hx, rfl⟩ := hv i v hp
    have hS' := hS.keep fun o q => mv.heap S o hSw q
    show wpAny _ A.in1 (holding [Value.str x t] (setAdd S (.str x t)) >>= _) _ _ z'
    refine wpAny_bind (wpAny_holding ?_)
    unfold setAdd
    refine wpAny_holding ?_
    refine wpAny_bind ((PySem.strKind P w).pyHash (k := x) (strKind_is _ _ _ _) ?_)
    refine setG_add (knd := PySem.strKind P w) (s := { z' with toks := z'.toks + 1 }) (strKind_is _ _ _ _) rfl hx hS' (by omega) fun b h2 but S2 => ?_
    refine wpAny_pure ⟨plainId_quiet F.plain_set_update_loop _, ih (i + 1) _ (by omega) lt (W.frame _ z' _ _ hst' (Nat.le_succ _) fun c hc o q => ?_) S2 fun z'' mv2 S3 => ?_⟩
    · rw [but.2 c (fun q : c = S => hSf (by rw [← q]; exact hc))]; exact q
    · refine fin z'' (Moved.trans W.gtrans ((mv.mono more).then_heap (Nat.le_succ _) fun c o hc q => ?_) mv2) S3
      rw [but.2 c (fun y : c = S => hc (by rw [y]; exact List.mem_cons_self))]; exact q
abbrev freshSet (w : World) : Obj := { cls := .type "set", dict := none, data := .set #[] 0 (.fresh 0 0 (!w.params.followText "set-order")) }
theorem setG_fresh {M : Str → Prop} {h : Heap} {a : Addr} (e : h.get? a = some (freshSet w)) : SetG (PySem.strKind P w) M 0 h a :=
  ⟨_, #[], 0, _, e, ⟨rfl, rfl, rfl⟩, rfl, (fun _ q => by simp at q), ⟨Nat.le_refl _, by decide, rfl, List.Pairwise.nil, by
    show _ ∨ (!w.params.followText "set-order") = true
    cases w.params.followText "set-order"
    · exact .inr rfl
    · exact .inl rfl, fun h => absurd h (Nat.lt_irrefl 0)⟩⟩
set_option maxHeartbeats 8000000 in
/-- set(xs), xs a list of texts -/
theorem setG_list {l : Addr} {us : Array Value} {M : Str → Prop} {Q : Value → Shared → Prop} (hh : A.handled = none) (hl : s.heap.IsList l us) (hb : us.size + 1 < scanBound)
    (hu : ∀ (i : Nat) (v : Value), us[i]? = some v → ∃ x t, M x ∧ v = Value.str x t)
    (fin : ∀ (h' : Heap) (tk : Nat), SetG (PySem.strKind P w) M us.size h' s.heap.objs.size → (∀ b o, s.heap.get? b = some o → h'.get? b = some o) → Q (.ref s.heap.objs.size) { s with heap := h', toks := tk }) :
    wpAny (model P w) A (call (.type "set") [.ref l]) Q E s := by
  obtain ⟨c, tl, hmro⟩ := F.called_set.mro
  have made := F.called_set.made
  have sub := F.called_set.sub
  refine wpAny_call (codeAny_of_tree ?_)
  show wpAny _ _ (callAny (.type "set") _) _ _ _
  refine wpAny_pure ⟨Code.quiet_builtin _ (by decide +kernel), codeAny_builtin F.entry_type_call ?_⟩
  rw [Around.under_plain (weight_type_call_type "set" [.ref l] []) rfl]
  have nt := F.called_set.notType
  have cc := F.called_set.canCreate
  have tc := F.typeCall_set_1 (.ref l)
  repeat any_goals first | assumption | wp_step
  refine codeAny_mono (code_set_led1 (.ref l) (E := E) (Q₁ := fun v z => v = .ref s.heap.objs.size ∧ z = { s with heap := s.heap.push (freshSet w) }) ⟨rfl, rfl⟩) fun r z hr => ?_
  cases r with
  | error e => exact hr
  | ok fl =>
    cases fl with
    | ret v =>
      obtain ⟨rfl, rfl⟩ := hr
      have at0 : (s.heap.push (freshSet w)).get? s.heap.objs.size = some (freshSet w) := Heap.get?_push_size _ rfl
      have ty0 : Shared.TypeIs { s with heap := s.heap.push (freshSet w) } (.ref s.heap.objs.size) "set" := ⟨_, at0, rfl⟩
      have il := F.called_set.init.lookup
      have ib := F.called_set.init.bind (.ref s.heap.objs.size)
      repeat any_goals first | assumption | wp_step
      refine codeAny_mono (codeAny_call_builtin (R := wants (fun r z => r = .none ∧ ∃ h' tk, z = { s with heap := h', toks := tk } ∧ SetG (PySem.strKind P w) M us.size h' s.heap.objs.size ∧ (∀ b o, s.heap.get? b = some o → h'.get? b = some o)) E)
        F.called_set.init.plain F.entry_set_init (check_set_init_1 ty0 ?_)) fun r2 z2 hr2 => ?_
      · obtain ⟨ob, hob, hcl, nl, hdl⟩ := hl
        obtain ⟨ocls, odict, odata, oslots⟩ := ob
        simp only at hcl hdl
        subst hcl; subst hdl
        have hob' : (s.heap.push (freshSet w)).get? l = some { cls := .type "list", dict := odict, data := .seq us nl, slots := oslots } := Heap.get?_push_of_some _ hob
        have n1 := F.sub_list_set
        have n2 := F.sub_list_frozenset
        have n3 : (Value.type "list" == Value.type "dict") = false := by decide
        have isl : (s.heap.push (freshSet w)).IsList l us := ⟨_, hob', rfl, nl, rfl⟩
        unfold Builtin.«set.__init__» noKeywords Builtin.Frozenset.updateFrom
        generalize hPI : pyIter = PI
        wp_walk
        subst hPI
        refine wpAny_pyIter_list isl ?_
        refine wpAny_bind (wpAny_runValue ?_)
        have lS : l < s.heap.objs.size := Heap.lt_size hob
        have hh3 : A.in1.in1.in1.handled = none := by simp [hh]
        have ne1 : l ≠ (s.heap.push (freshSet w)).objs.size := by
          rw [Heap.size_push]; exact Nat.ne_of_lt (Nat.lt_succ_of_lt lS)
        have notin : s.heap.objs.size ∉ [(s.heap.push (freshSet w)).objs.size, l] := by
          rw [Heap.size_push]; simp only [List.mem_cons, List.mem_singleton, List.not_mem_nil, or_false, not_or]
          exact ⟨Nat.ne_of_lt (Nat.lt_succ_self _), Nat.ne_of_gt lS⟩
        refine setG_turns ((Walks.list hh3 _ l ne1 us).toS) s.heap.objs.size notin hb (fun i v q => hu i v q) (us.size - 0) 0 _ (by omega) (Nat.zero_le _)
          ⟨⟨_, Heap.get?_push_size _ rfl, rfl, rfl⟩, isl.push _⟩ ?hS0 ?hR
        case hS0 => exact setG_fresh (Heap.get?_push_of_some _ at0)
        case hR =>
          intro z' mv S'
          obtain ⟨h', g2, d', tk', os'⟩ := z'
          have eg : g2 = s.gens := mv.gens
          have ed : d' = s.drawn := mv.drawn
          have eo : os' = s.os := mv.os
          subst eg; subst ed; subst eo
          show wpAny _ _ _ _ _ _
          refine wpAny_pure ?_
          show wpAny _ _ (ret Value.none) _ _ _
          refine wpAny_pure ⟨rfl, h', tk', rfl, S', fun b o e => ?_⟩
          have b0 : b < s.heap.objs.size := Heap.lt_size e
          have b1 : b ≠ s.heap.objs.size := Nat.ne_of_lt b0
          have b2 : b ≠ (s.heap.push (freshSet w)).objs.size := by
            rw [Heap.size_push]; exact Nat.ne_of_lt (Nat.lt_succ_of_lt b0)
          exact mv.heap b o (by simp only [List.mem_cons, List.mem_singleton, List.not_mem_nil, or_false, not_or]; exact ⟨b1, b2⟩) (Heap.get?_push_of_some _ (Heap.get?_push_of_some _ e))
      · cases r2 with
        | error e => exact hr2
        | ok fl2 =>
          cases fl2 with
          | ret r =>
            obtain ⟨rfl, h', tk, rfl, S', kp⟩ := hr2
            repeat any_goals first | assumption | wp_step
            exact fin _ _ S' kp
          | _ => exact hr2.elim
    | _ => exact hr.elim
end
/-! ## sorted(d), the value layer -/
def kP : Key → PV
  | .inl i => .int i
  | .inr x => .str x.cps.toList
abbrev tP (k : List Key) : PV := .tup (k.map kP)
def KBd (k : List Key) : Prop := k.length ≤ 16777216 ∧ ∀ x, Sum.inr x ∈ k → x.cps.toList.length ≤ 16777216
section
variable {K : PySem.W.Frag} {PO : POk} {X : Cx}
theorem rl_kP {pl : PL} {G : Hp} : ∀ k : List Key, (∀ x, Sum.inr x ∈ k → x.cps.toList.length ≤ 16777216) → Rl K pl G (k.map kP) (k.map kV)
  | [], _ => Rl.nil
  | .inl i :: k, h => Rl.cons Rs.int (rl_kP k fun x hx => h x (List.mem_cons_of_mem _ hx))
  | .inr x :: k, h => Rl.cons (show Rs K pl G (.str x.cps.toList) (V.str x) from by
      have := Rs.str (K := K) (pl := pl) (G := G) (h x List.mem_cons_self)
      simpa [vS, S] using this) (rl_kP k fun x hx => h x (List.mem_cons_of_mem _ hx))
def fSortDT : List (List Key × PV) → (Vl → Prop) → Prop := fun kvs post => ∃ shape : Nat → Bool, (∀ kv ∈ kvs, kv.1 ≠ [] ∧ ShpK shape 0 kv.1 ∧ KBd kv.1) ∧ ∀ ys : List (List Key), ys.Perm (kvs.map (·.1)) → ys.Pairwise leK → post (.ol (ys.map tP))
theorem s1_sortDT : S1O rD1 K PO rSortDT fSortDT := fun {G H pl x d Q post} o hx hf hq => by
  obtain ⟨shape, hs, hp⟩ := hf
  obtain ⟨a, xs, rfl, h1, h2, h3⟩ := hx
  have hk := rt_keys h2
  have mem : ∀ kv ∈ xs, kv.1 ≠ [] ∧ ShpK shape 0 kv.1 ∧ KBd kv.1 := fun kv q => by
    have : kv.1 ∈ d.map (·.1) := by rw [← hk]; exact List.mem_map.mpr ⟨kv, q, rfl⟩
    obtain ⟨kv', q', e⟩ := List.mem_map.mp this
    rw [← e]
    exact hs kv' q'
  refine ⟨a, xs, shape, rfl, rd_of o h1, fun kv q => ⟨(mem kv q).1, (mem kv q).2.1⟩, fun bs p b1 b2 b3 hn => ?_⟩
  have s := Stp.adopt (A := bs.map (·.2)) o fun c hc => by
    obtain ⟨z, hz, rfl⟩ := List.mem_map.mp hc
    exact ⟨_, b3 z hz⟩
  have bd : ∀ z ∈ bs, KBd z.1 := fun z hz => by
    have : z.1 ∈ xs.map (·.1) := b1.mem_iff.mp (List.mem_map.mpr ⟨z, hz, rfl⟩)
    obtain ⟨kv, q, e⟩ := List.mem_map.mp this
    rw [← e]
    exact (mem kv q).2.2
  have rl : Rl K pl (join G H (bs.map (·.2))) (bs.map fun z => tP z.1) (bs.map fun z => V.ref z.2) := Rl.map fun z hz => by
    refine Rs.tup (xs := z.1.map kV) ?_ (rl_kP z.1 (bd z hz).2) (by rw [List.length_map]; exact (bd z hz).1)
    rw [join_in (List.mem_map.mpr ⟨z, hz, rfl⟩)]
    exact b3 z hz
  refine so_lst s.ok rl ?_ ?_ (fun v vl A G2 H2 pl2 s2 hv nd n hp2 => hq v vl A G2 H2 pl2 (s.trans o s2) hv nd n hp2) hn
  · have := b1.length_eq
    rw [List.length_map, List.length_map] at this
    rw [List.length_map, this]
    have := congrArg List.length hk
    rw [List.length_map, List.length_map] at this
    omega
  · have := hp (bs.map (·.1)) (by rw [← hk]; exact b1) b2
    rw [List.map_map] at this
    exact this
end
/-! ## sorted(set(xs)), xs texts -/
def tSortSet (K : PySem.W.Frag) (ta : TE) : TE := fun σ H Q => ta σ H fun x H1 => ∃ l, ∃ xs : List Str, x = .ref l ∧ SqL K H1 l (xs.map V.str) ∧ xs.length < 64 ∧
  ∀ (ys : List Str) (p : Addr), (∀ y ∈ ys, y ∈ xs) → ys.length ≤ xs.length → (0 < xs.length → 0 < ys.length) → sortedS ys = true → H1 p = none → Q (.ref p) (upd H1 p (.lst (ys.map V.str)))
theorem strs_mem {M : Str → Prop} : ∀ vs : List Value, (∀ v ∈ vs, ∃ x t, M x ∧ v = Value.str x t) → ∃ ks : List Str, StrsAre vs ks ∧ ∀ k ∈ ks, M k
  | [], _ => ⟨[], .nil, fun _ h => nomatch h⟩
  | v :: vs, h => by
    obtain ⟨x, t, hx, rfl⟩ := h v List.mem_cons_self
    obtain ⟨ks, k1, k2⟩ := strs_mem vs fun u hu => h u (List.mem_cons_of_mem _ hu)
    exact ⟨x :: ks, .cons x t k1, fun k hk => by
      rcases List.mem_cons.mp hk with rfl | hk
      · exact hx
      · exact k2 k hk⟩
theorem pe_sortSet {X : Cx} {a : Expr} {ta : TE} {p p2 q pos : Pos} (hc : X.calm = true) (hg : Gl X "sorted") (hm : X.mg "sorted" = none) (hg2 : Gl X "set") (hm2 : X.mg "set" = none) (ha : PE X a ta)
    (na : starEach [a] X.env = (false, eval a X.env) :: starEach [] X.env := by rfl) : PE X (.Call (.Name "sorted" p) [.Call (.Name "set" p2) [a] [] q] [] pos) (tSortSet X.K ta) := by
  refine ⟨fun pins s σ H Q I h => ?_⟩
  refine Call_ (ld_blt I hg hm (by decide +kernel : bootBuiltins "sorted" = some (.builtin "sorted")) ?_)
  refine callWith_builtin1 (args_cons ?_ rfl) rfl rfl
  refine Call_ (ld_blt I hg2 hm2 (by decide +kernel : bootBuiltins "set" = some (.type "set")) ?_)
  refine callWith_type1 (args_cons (thn (ha.run pins s σ H _ I h) fun v s1 ⟨x, H1, I1, r1, q1⟩ => args_nil ?_) na) na rfl
  obtain ⟨l, xs, rfl, hq, h64, q1⟩ := q1
  cases r1
  obtain ⟨its, r, pl, hz⟩ := I1.list hq
  have hh : X.A.handled = none := I1.ok.hd hc
  have hlen : its.length = xs.length := by rw [← r.length, List.length_map]
  refine setG_list (M := fun x => x ∈ xs) hh pl.isList (by rw [List.size_toArray, hlen]; unfold scanBound; omega) (fun i v e => ?_) fun h' tk S' kp => ?_
  · have e2 : its[i]? = some v := by simpa using e
    have hi : i < xs.length := by rw [← hlen]; exact (List.getElem?_eq_some_iff.mp e2).1
    obtain ⟨u, eu, t, ru⟩ := r.get (i := i) (x := .str xs[i]) (by simp [hi])
    rw [e2] at eu
    cases eu
    exact ⟨xs[i], t, List.getElem_mem hi, ru⟩
  · refine args_nil ?_
    obtain ⟨o, es, ep, t, ho, hex, hd, g, T⟩ := S'
    have pos : 0 < xs.length → 0 < es.size := fun q => T.pos (by rw [List.size_toArray, hlen]; exact q)
    have few : es.size ≤ xs.length := by
      have e1 : its.toArray.size = xs.length := by rw [List.size_toArray, hlen]
      exact Nat.le_trans T.few (Nat.le_of_eq e1)
    refine Calls.call_function_entry kind_sorted plain_sorted entry_sorted (args_sorted1 _) ?_
    unfold Builtin.«sorted»
    refine wpAny_bind (m := checkCount "sorted" 1 1 _) (wpAny_pure ?_)
    refine wpAny_bind (collect_set (A := X.A.in1) hh ⟨o, ho, hex.1, hd⟩ T.fits T.small T.ris T.led fun s2 vs k1 hz2 g1 o1 pm => ?_)
    have vl : vs.length = es.size := by rw [pm.length_eq, List.length_map, Array.length_toList]
    obtain ⟨ks, hS, hks⟩ := strs_mem (M := fun x => x ∈ xs) vs fun v hv => by
      obtain ⟨e, he, rfl⟩ := List.mem_map.mp (pm.mem_iff.mp hv)
      obtain ⟨⟨k, hk1, hk2, _⟩, _⟩ := g e he
      obtain ⟨t, ev⟩ := Value.isStrOf_shape (x := k) (v := e.2) hk2
      exact ⟨k, t, hk1, ev⟩
    have kl : ks.length = vs.length := (StrsAre.len_eq hS).symm
    refine wpAny_bind (wpAny_newList ?_ (by rw [sizeLine_eq]; omega))
    have hoL : (s2.heap.push (seqObj "list" vs.toArray 0)).get? s2.heap.objs.size = some (seqObj "list" vs.toArray 0) := Heap.get?_push_size _ rfl
    refine wpAny_bind (wpAny_holding (wpAny_call_entry slot_list_sort ⟨_, hoL, rfl⟩ entry_list_sort
      (list_sort_treeK strKind_oneLt (s := { s2 with heap := s2.heap.push (seqObj "list" vs.toArray 0) }) hoL hS.keysOf (fun v₁ v₂ rest e => keyKind_strs (by rw [← e]; exact hS)) (by omega) fun st' hp hs => ⟨_, rfl, ?_⟩)
      (args_list_sort _)))
    obtain ⟨ys, g3, g4, g5⟩ := sorted_out_str hS hp hs
    obtain ⟨e', he'⟩ := sortedHeap_at (vs := vs) (out := (arrOf st').map (·.2)) hoL
    have ylen : ys.length ≤ xs.length := by rw [g4.length_eq, kl, vl]; exact few
    have ypos : 0 < xs.length → 0 < ys.length := fun q => by rw [g4.length_eq, kl, vl]; exact pos q
    have hlen2 : (ys.map V.str).length ≤ sizeLine := by rw [List.length_map, sizeLine_eq]; omega
    have kk : ∀ b u, s1.heap.get? b = some u → (sortedHeap (s2.heap.push (seqObj "list" vs.toArray 0)) s2.heap.objs.size vs ((arrOf st').map (·.2))).get? b = some u := fun b u e => by
      have e2 := k1 b u (kp b u e)
      have hb := Heap.lt_size e2
      rw [sortedHeap_old (Nat.ne_of_lt hb) (by rw [size_push']; exact Nat.lt_succ_of_lt hb)]
      exact Heap.get?_push_of_some _ e2
    have hp2 : s1.heap.objs.size ≤ s2.heap.objs.size := by
      refine Nat.le_trans ?_ hz2
      exact Nat.le_of_lt (Heap.lt_size (h := h') ho)
    have hn : H1 s2.heap.objs.size = none := I1.hok.fresh hp2
    have J : Inv X pins σ (upd H1 s2.heap.objs.size (.lst (ys.map V.str))) { s1 with heap := sortedHeap (s2.heap.push (seqObj "list" vs.toArray 0)) s2.heap.objs.size vs ((arrOf st').map (·.2)), gens := s2.gens, drawn := s2.drawn, toks := s2.toks } :=
      I1.call (ch := []) (Un.laid kk hp2 hn) (I1.hok.laid kk hp2 ⟨hlen2, ((arrOf st').map (·.2)).toList, e', vals_of_strs g3, by rw [Array.toArray_toList]; exact he'⟩) (by show AllBare s2.gens; rw [g1]; exact I1.bare) (fun _ z => nomatch z)
    refine wpAny_pure ?_
    have eS : ({ s2 with heap := sortedHeap (s2.heap.push (seqObj "list" vs.toArray 0)) s2.heap.objs.size vs ((arrOf st').map (·.2)) } : Shared) = { s1 with heap := sortedHeap (s2.heap.push (seqObj "list" vs.toArray 0)) s2.heap.objs.size vs ((arrOf st').map (·.2)), gens := s2.gens, drawn := s2.drawn, toks := s2.toks } := by
      cases s2
      cases s1
      cases o1
      rfl
    refine ⟨_, rfl, ?_⟩
    show EP X pins σ Q (.ref s2.heap.objs.size) { s2 with heap := sortedHeap (s2.heap.push (seqObj "list" vs.toArray 0)) s2.heap.objs.size vs ((arrOf st').map (·.2)) }
    rw [eS]
    exact ⟨.ref s2.heap.objs.size, _, J, rfl, q1 ys _ (fun y hy => hks y (g4.mem_iff.mp hy)) ylen ypos g5 hn⟩
section
variable {K : PySem.W.Frag} {PO : POk} {X : Cx}
def pSortSet (p : PX (List PV)) : PX Vl := fun ρ post => p ρ fun ds => ∃ ls : List (List Nat), ds = ls.map .str ∧ ls.length < 64 ∧ ∀ ms : List (List Nat), (∀ m ∈ ms, m ∈ ls) → ms.length ≤ ls.length → (0 < ls.length → 0 < ms.length) → post (.ol (ms.map .str))
theorem qo_sortSet {a : Expr} {ta : TE} {pa : PX (List PV)} {p p2 q pos : Pos} (hK : X.K = K) (hc : X.calm = true) (hg : Gl X "sorted") (hm : X.mg "sorted" = none) (hg2 : Gl X "set") (hm2 : X.mg "set" = none) (ha : QX rL K PO X a ta pa)
    (na : starEach [a] X.env = (false, eval a X.env) :: starEach [] X.env := by rfl) : QO K PO X (.Call (.Name "sorted" p) [.Call (.Name "set" p2) [a] [] q] [] pos) (tSortSet K ta) (pSortSet pa) := by
  subst hK
  refine ⟨pe_sortSet hc hg hm hg2 hm2 ha.pe na, fun {B G0 G H pl σ ρ Q post} r hp hq => ha.sd r hp fun v d G1 H1 pl1 s1 hd hp1 => ?_⟩
  obtain ⟨ls, rfl, h64, hp2⟩ := hp1
  obtain ⟨c, xs, rfl, k1, k2, k3, k4⟩ := hd
  have hl := rl_str_len k3
  rw [rl_str k3] at k1
  refine ⟨c, ls.map S, rfl, by rw [List.map_map]; exact SqL.of k1, by rw [List.length_map]; exact h64, fun ys p y1 y2 y3 _ hn => ?_⟩
  have ey : ys = (ys.map fun y => y.cps.toList).map S := by
    rw [List.map_map]
    conv => lhs; rw [← List.map_id ys]
    exact List.map_congr_left fun y _ => by simp [S]
  have hm : ∀ m ∈ ys.map (fun y => y.cps.toList), m ∈ ls := fun m hm => by
    obtain ⟨y, hy, rfl⟩ := List.mem_map.mp hm
    obtain ⟨l, hl', rfl⟩ := List.mem_map.mp (y1 y hy)
    simpa [S] using hl'
  have hlen : (ys.map fun y => y.cps.toList).length ≤ ls.length := by rw [List.length_map]; rw [List.length_map] at y2; exact y2
  have hps : 0 < ls.length → 0 < (ys.map fun y => y.cps.toList).length := fun q => by rw [List.length_map]; exact y3 (by rw [List.length_map]; exact q)
  generalize ys.map (fun y => y.cps.toList) = ms at ey hm hlen hps
  subst ey
  rw [List.map_map]
  exact so_lst s1.ok (rl_strs ms fun l hl' => hl l (hm l hl')) (by rw [List.length_map]; omega) (hp2 ms hm hlen hps) (fun v vl A G2 H2 pl2 s2 hv nd n hp3 => hq v vl A G2 H2 pl2 (s1.trans r.ok s2) hv nd (fun a ha => ⟨fresh_on r.ok s1 (n a ha).1, (n a ha).2⟩) hp3) hn
/-! ## (a, b, ..) = a list -/
def gpUnl (n : Nat) (qs : List PV → En → (En → Prop) → Prop) : PV → En → (En → Prop) → Prop := fun d ρ post => ∃ ds, d = .lst ds ∧ ds.length = n ∧ qs ds ρ post
theorem qg_unl {es : List Expr} {k : Nat} {pos : Pos} {t : TGs} {n : Nat} {ws : List Nat} {qs : List PV → En → (En → Prop) → Prop} (hK : X.K = K) (hc : X.calm = true) (h : QGs K PO X es t ws qs)
    (hn : (assignEach es X.env).length = n := by rfl) (hst : (assignEach es X.env).findIdx? (·.1) = none := by rfl) : QG K PO X (.Tuple es k pos) (gUnl K n t) ws (gpUnl n qs) := by
  subst hK
  refine ⟨pg_unl hc h.pe hn hst, fun {B G0 G H pl σ ρ v d Q post} r hd hp hq => ?_⟩
  obtain ⟨ds, rfl, hl, hp⟩ := hp
  obtain ⟨a, xs, rfl, k1, k2, _⟩ := rs_lst hd
  exact ⟨a, xs, rfl, SqL.of (r.ok.sub _ _ k1), k2.len.trans hl, h.sd r k2 hp hq⟩
theorem u_unl {n : Nat} {qs : List PV → En → (En → Prop) → Prop} {ds : List PV} {ρ : En} {post : En → Prop} (h1 : ds.length = n) (h : qs ds ρ post) : gpUnl n qs (.lst ds) ρ post := ⟨ds, rfl, h1, h⟩
end
/-! ## the second kind of pool: [great numbers, a place among them, a mixed number] -/
def POE : POk := ⟨fun v as H => ∃ (p g : Addr) (x : Int) (k : Nat) (ns : List Int), v = .ref p ∧ as = [p, g] ∧ p ≠ g ∧ H p = some (.lst [.ref g, .int (k : Int), .int x]) ∧ H g = some (.lst (ns.map V.int)) ∧ ns.length ≤ 63,
  fun v as H H' ⟨p, g, x, k, ns, h1, h2, h3, h4, h5, h6⟩ h => ⟨p, g, x, k, ns, h1, h2, h3, by rw [h p (by rw [h2]; simp)]; exact h4, by rw [h g (by rw [h2]; simp)]; exact h5, h6⟩,
  fun v as H ⟨p, g, x, k, ns, h1, h2, h3, h4, h5, h6⟩ a ha => by
    rw [h2] at ha
    rcases List.mem_cons.mp ha with rfl | ha
    · exact .lst h4
    · rw [List.mem_singleton.mp ha]; exact .lst h5⟩
def shapeE (ds : List PV) : Prop := ∃ (x : Int) (ns : List Int), ds = [.lst (ns.map .int), .int 0, .int x] ∧ ns.length ≤ 63
def sp_law_pool2 : SpV := fun ds post => ∃ ns : List Int, ds = [.scr ns] ∧ ns.length ≤ 63 ∧ ∀ ds', shapeE ds' → post (.ol ds')
/-! ## a dict of the caller's that the callee only reads -/
section
variable {K : PySem.W.Frag} {PO : POk} {X : Cx} {W : WX} {B G0 G H G1 H1 : Hp} {pl : PL} {σ : L2.St} {ρ : En}
theorem Rel.keepK {v : V} {d d0 : PV} {m : Nat} {a : Addr} {ds : List (Key × PV)} (r : Rel K PO B G0 G H pl (σ ++ [some v]) (ρ ++ [some (.sh d)])) (e : ρ[m]? = some (some (.atK d0 a ds))) : Rel K PO B G0 G H pl [some v] [some (.atK d a ds)] := by
  have hl := r.lenT
  have hm := (List.getElem?_eq_some_iff.mp e).1
  obtain ⟨fp, f1, f2, f3, f4⟩ := r.ex
  obtain ⟨v0, e1, xs, ea, k1, k2, k3, k4⟩ := f1 m _ (by rw [List.getElem?_append_left hm]; exact e)
  obtain ⟨v1, e2, hA, hd⟩ := f1 ρ.length (.sh d) (by rw [List.getElem?_append_right (Nat.le_refl _), Nat.sub_self]; rfl)
  rw [List.getElem?_append_right (by omega), hl, Nat.sub_self] at e2
  cases e2
  refine ⟨r.ok, r.gb, r.on, r.fr, rfl, fun i => if i = 0 then fp m else [], fun i vl q => ?_, fun i => ?_, fun i j b h1 h2 => ?_, fun i b h1 => ?_⟩
  · have h0 : i = 0 := by have := (List.getElem?_eq_some_iff.mp q).1; simp at this; omega
    subst h0
    cases q
    exact ⟨v, rfl, xs, ea, hd, k2, k3, k4⟩
  · try dsimp only
    split
    · exact f2 _
    · exact List.nodup_nil
  · try dsimp only at h1 h2
    split at h1
    · split at h2
      · omega
      · cases h2
    · cases h1
  · try dsimp only at h1
    split at h1
    · exact f4 _ b h1
    · cases h1
def pRetK (m : Nat) (p : En → (Vl → En → Prop) → Prop) : PSt := fun P ρ => p ρ fun vl ρ' => ∃ d a es, vl = .sh d ∧ ρ'[m]? = some (some (.atK (.obj a) a es)) ∧ P.rt (.atK d a es)
theorem qs_retK (m : Nat) {e : Expr} {pos : Pos} {te : TE} {p : En → (Vl → En → Prop) → Prop} (he : QM K PO X e te p) : QS K PO W X (.Return (some e) pos) (tRet te) (pRetK m p) :=
  ⟨ps_ret he.pe, fun {B G0 G H pl σ ρ D P} r e hp => he.sd r hp fun v vl ρ' G' H' pl' s le r' hp1 => by
    obtain ⟨d, a, es, rfl, em, hp2⟩ := hp1
    exact e.rt s le (r'.keepK em) hp2⟩
abbrev SpK := List PV → List (Key × PV) → (PV → Prop) → Prop
def hSpK (K : PySem.W.Frag) (PO : POk) (sp : SpK) : Sp := fun vs H Q _ => ∃ (G : Hp) (pl : PL) (ds : List PV) (es : List (Key × PV)) (a : Addr) (us : List V) (xs : List (Key × V)) (post : PV → Prop), vs = us ++ [.ref a] ∧ Ok PO G H pl ∧ Rl K pl G ds us ∧ H a = some (.dK xs) ∧ G a = none ∧ a ∉ pads pl ∧ Rk K pl G es xs ∧ es.length ≤ 16777216 ∧ sp ds es post ∧
  ∀ d v G' H', post d → Same G G' → Rel K PO (del H a) G G' H' pl [some v] [some (.atK d a es)] → Q v H'
abbrev CalK (P : Program) (w : World) (K : PySem.W.Frag) (PO : POk) (mg : Str → Option Value) (base : Heap) (k : Nat) (x : Str) (sp : SpK) : Prop := Cal P w K mg base k x (hSpK K PO sp)
theorem Rel.behindK {i : Nat} {v : V} {d : PV} {a : Addr} {es : List (Key × PV)} {G2 H2 : Hp} (r : Rel K PO B G0 G1 H1 pl σ ρ) (e : ρ[i]? = some (some (.oK es))) (ev : σ[i]? = some (some (.ref a))) (s : Same G1 G2) (r2 : Rel K PO (del H1 a) G1 G2 H2 pl [some v] [some (.atK d a es)]) : Rel K PO B G0 G2 H2 pl (σ ++ [some v]) (ρ.set i (some (.oK es)) ++ [some (.sh d)]) := by
  have hl := r.len
  have hi := (List.getElem?_eq_some_iff.mp e).1
  obtain ⟨fp, f1, f2, f3, f4⟩ := r.ex2
  obtain ⟨v0, e1, e2⟩ := f1 i _ e
  rw [ev] at e1
  cases e1
  obtain ⟨a', xs, ea, eA, k1, k2, k3⟩ := e2
  cases ea
  have hai : a ∈ fp i := by rw [eA]; simp
  obtain ⟨qa1, qa2, qa3, qa4⟩ := f4 i a hai
  obtain ⟨gp, g1, g2, g3, g4⟩ := r2.ex
  obtain ⟨v1, e3, xs2, eA2, m1, m2, m3, m4⟩ := g1 0 _ rfl
  cases e3
  obtain ⟨w1, w2, w3, w4⟩ := g4 0 a (by rw [eA2]; simp)
  have nea : ∀ b, b ≠ a → del H1 a b = H1 b := fun b h => del_ne h
  have keepH : ∀ b o, H1 b = some o → b ≠ a → b ∉ pads pl → H2 b = some o := fun b o h1 h2 h3 => r2.fr b o (by rw [nea b h2]; exact h1) h3
  have keepG : ∀ b, Oth H1 b → b ≠ a → G2 b = G1 b := fun b h1 h2 => r2.gb b (h1.to fun o e => by rw [nea b h2]; exact e)
  have ba : ∀ b, B b ≠ none → b ≠ a := fun b h z => h (by rw [z]; exact qa2)
  have gbG : ∀ b, Oth B b → G2 b = G0 b := fun b hb => by
    by_cases hp : b ∈ pads pl
    · have e1 := r2.ok.free b hp
      have e2 := r.ok.free b hp
      rw [e1, ← e2]
      exact r.gb b hb
    · exact (keepG b (hb.to fun o e => r.fr b o e hp) (ba b hb.1)).trans (r.gb b hb)
  refine ⟨r2.ok, gbG, fun b hb => r2.on b (by rw [nea b (ba b hb)]; exact r.on b hb), fun b o eb hb => keepH b o (r.fr b o eb hb) (ba b (by rw [eb]; simp)) hb, by rw [List.length_append, List.length_append, List.length_set, hl]; rfl, ?_⟩
  refine ⟨fun j => if j = ρ.length then [] else fp j, fun j vl q => ?_, fun j => ?_, fun j k b h1 h2 => ?_, fun j b h1 => ?_⟩
  · try dsimp only
    rcases get_app_some q with ⟨hj, q0⟩ | ⟨hj, q0⟩
    · rw [List.length_set] at hj
      rw [if_neg (by omega)]
      rcases get_set_some q0 with ⟨rfl, _, q1⟩ | ⟨hne, q1⟩
      · cases q1
        exact ⟨.ref a, by rw [List.getElem?_append_left (by omega)]; exact ev, a, xs2, rfl, eA, m2, m3, m4⟩
      · obtain ⟨vj, p1, p2⟩ := f1 j vl q1
        refine ⟨vj, by rw [List.getElem?_append_left (by omega)]; exact p1, p2.mono s (plLe.refl _) fun b hb o eo => ?_⟩
        exact keepH b o eo (fun z => hne (f3 _ _ a hai (by rw [← z]; exact hb))) (f4 j b hb).2.2.1
    · rw [List.length_set] at hj
      subst hj
      cases q0
      rw [if_pos rfl]
      exact ⟨v, by rw [List.getElem?_append_right (by omega), hl, Nat.sub_self]; rfl, rfl, m1⟩
  · try dsimp only
    split
    · exact List.nodup_nil
    · exact f2 _
  · try dsimp only at h1 h2
    split at h1
    · cases h1
    · split at h2
      · cases h2
      · exact f3 _ _ b h1 h2
  · try dsimp only at h1
    split at h1
    · cases h1
    · obtain ⟨q1, q2, q3, q4⟩ := f4 j b h1
      by_cases z : b = a
      · subst z
        exact ⟨w1, q2, q3, w4⟩
      · refine ⟨(keepG b q4 z).trans q1, q2, q3, ?_⟩
        cases eo : H1 b with
        | none => exact absurd eo q4.1
        | some o => rw [keepH b o eo z q3]; simp
def pCallK (i : Nat) (sp : SpK) (p : PX (List PV)) : En → (Vl → En → Prop) → Prop := fun ρ post => p ρ fun ds => ∃ es, ρ[i]? = some (some (.oK es)) ∧ sp ds es fun d => post (.sh d) (ρ.set i (some (.oK es)))
theorem sm_callK {i : Nat} {sp : SpK} {t : TA} {p : PX (List PV)} (h : SAM K PO i t p) : SM K PO (tCall (hSpK K PO sp) [] E0 t) (pCallK i sp p) := fun {B G0 G H pl σ ρ Q post} r hp hq => by
  refine h r hp fun us v ds G1 H1 pl1 s1 hds ev hp1 => ?_
  obtain ⟨es, e, hp1⟩ := hp1
  have r1 := r.step s1
  obtain ⟨v', A, ev', hR, _, n⟩ := r1.var e
  rw [ev] at ev'
  cases ev'
  obtain ⟨a, xs, rfl, rfl, k1, k2, k3⟩ := hR
  obtain ⟨n1, n2, n3, n4⟩ := n a (by simp)
  show hSpK K PO sp ((us ++ [.ref a]) ++ []) H1 Q E0
  rw [List.append_nil]
  exact ⟨G1, pl1, ds, es, a, us, xs, _, rfl, s1.ok, hds, k1, n1, n3, k2, k3, hp1, fun d v G2 H2 hpost s2 r2 => hq v (.sh d) _ G2 H2 pl1 (s1.g.trans s2) s1.le (r1.behindK e ev s2 r2) hpost⟩
theorem qm_cK {i k j : Nat} {x : Str} {sp : SpK} {p0 pos : Pos} {e : Expr} {es : List Expr} {t : TA} {p : PX (List PV)} (hK : X.K = K) (c : CalK X.prog X.w X.K PO X.mg X.base k x sp) (hr : Room j X.A) (hk : k ≤ j) (hg : Gl X x) (ha : QAM K PO X i (e :: es) t p)
    (hdb : (x == ("__debug__" : Str)) = false := by decide) (he : starEach (e :: es) X.env = (false, eval e X.env) :: starEach es X.env := by rfl) (hpl : (backTo pos (starEach es X.env)).any (·.1) = false := by rfl) :
    QM K PO X (.Call (.Name x p0) (e :: es) [] pos) (tCall (hSpK K PO sp) [] E0 t) (pCallK i sp p) := by
  subst hK
  exact ⟨pe_c c hr hk hg ha.pe hdb he hpl, sm_callK ha.sd⟩
def startK (n : Nat) (ds : List PV) (a : Addr) (es : List (Key × PV)) : En := ds.map (fun d => some (.sh d)) ++ some (.atK (.obj a) a es) :: List.replicate (n - ds.length - 1) none
theorem rel_startK {N : List Str} {vs : List V} {xs : List (Key × V)} {ds : List PV} {es : List (Key × PV)} {a : Addr} (o : Ok PO G H pl) (h : Rl K pl G ds vs) (h1 : H a = some (.dK xs)) (h2 : G a = none) (h3 : a ∉ pads pl) (h4 : Rk K pl G es xs) (h5 : es.length ≤ 16777216) : Rel K PO (del H a) G G H pl (start N (vs ++ [.ref a])) (startK N.length ds a es) := by
  have hl := h.len
  have dn : ∀ b, del H a b ≠ none → b ≠ a := fun b hb z => hb (by rw [z]; exact del_same)
  refine ⟨o, fun _ _ => rfl, fun b hb => by rw [del_ne (dn b hb)] at hb; exact hb, fun b ob e _ => by rw [del_ne (dn b (by rw [e]; simp))] at e; exact e, ?_, ⟨fun i => if i = ds.length then [a] else [], fun i vl e => ?_, fun i => ?_, fun i j b q1 q2 => ?_, fun i b q => ?_⟩⟩
  · unfold L2.start startK
    simp only [List.length_append, List.length_map, List.length_replicate, List.length_cons, List.length_nil, hl]
    omega
  · unfold startK at e
    unfold L2.start
    rw [List.map_append]
    by_cases hi : i < ds.length
    · rw [List.getElem?_append_left (by rw [List.length_map]; exact hi), List.getElem?_map, List.getElem?_eq_getElem hi] at e
      obtain ⟨x, h1, h2⟩ := h.get (List.getElem?_eq_getElem hi)
      cases e
      refine ⟨x, ?_, ?_⟩
      · rw [List.getElem?_append_left (by rw [List.length_append, List.length_map]; omega), List.getElem?_append_left (by rw [List.length_map]; omega), List.getElem?_map, h1]
        rfl
      · show RV K pl G H _ _ (if i = ds.length then [a] else [])
        rw [if_neg (by omega)]
        exact ⟨rfl, h2⟩
    · by_cases hi2 : i = ds.length
      · subst hi2
        rw [List.getElem?_append_right (by rw [List.length_map]; omega), List.length_map, Nat.sub_self] at e
        cases e
        refine ⟨.ref a, ?_, ?_⟩
        · rw [List.getElem?_append_left (by rw [List.length_append, List.length_map]; simp; omega), List.getElem?_append_right (by rw [List.length_map]; omega), List.length_map, hl, Nat.sub_self]
          rfl
        · show RV K pl G H _ _ (if ds.length = ds.length then [a] else [])
          rw [if_pos rfl]
          exact ⟨xs, rfl, Rs.obj, h1, h4, h5⟩
      · obtain ⟨k, hk⟩ : ∃ k, i - ds.length = k + 1 := ⟨i - ds.length - 1, by omega⟩
        rw [List.getElem?_append_right (by rw [List.length_map]; omega), List.length_map, hk, List.getElem?_cons_succ, List.getElem?_replicate] at e
        split at e <;> cases e
  · try dsimp only
    split <;> simp
  · try dsimp only at q1 q2
    split at q1
    · split at q2
      · omega
      · cases q2
    · cases q1
  · try dsimp only at q
    split at q
    · rw [List.mem_singleton.mp q]
      exact ⟨h2, del_same, h3, by rw [h1]; simp⟩
    · cases q
end
theorem At.calK {P : Program} {w : World} {K : PySem.W.Frag} {PO : POk} {mg : Str → Option Value} {base : Heap} {x : Str} {st : Stmt} {N ps : List Str} {k : Nat} {sp : SpK} (m : Nat) (F : At K mg x st) (S : FnScope N ps (defScope st)) (len : ∀ ds es post, sp ds es post → ds.length = m) (hm : ps.length = m + 1)
    (hb : ∀ (kV doc pm : Value) (an : Option Addr) (cdv ct : Value) (us : List Value), us.length = ps.length → bindArgs (PySem.W.fnOf x x (defArgs st) (defBody st) (defScope st) .none kV doc pm an cdv ct) ⟨us, []⟩ = pure (ps.zip us))
    (hbody : ∀ (f : Addr) (cdv : Value) (A : Around) (outer : List Env) (s : Shared) (H : Hp) (E : XK) (a : Addr), Room k (A.deeper (envOfC x (defScope st) s.heap.objs.size f cdv)) →
      ∃ t p, QB K PO (fun _ _ _ _ => False) (cxOf CX0 P w K mg base N x (defScope st) f cdv A outer s H E).nox (defBody st) t p ∧ ∀ ds es post, sp ds es post → p { nx := fun ρ => False, rt := fun vl => ∃ d, vl = .atK d a es ∧ post d, bk := fun _ => False, ct := fun _ => False } (startK N.length ds a es)) : CalK P w K PO mg base (k + 1) x sp := by
  refine F.cal S (fun vs H Q E h => ?_) hb (fun f cdv A outer s H vs Q E hr h => ?_)
  · obtain ⟨G, pl, ds, es, a, us, xs, post, rfl, _, hl, _, _, _, _, _, hs, _⟩ := h
    rw [List.length_append, hl.len, len ds es post hs, hm]
    rfl
  · obtain ⟨G, pl, ds, es, a, us, xs, post, rfl, o, hl, k1, k2, k3, k4, k5, hs, hq⟩ := h
    obtain ⟨t, p, q, hp⟩ := hbody f cdv A outer s H E a hr
    refine ⟨t, q.pe, ?_⟩
    refine q.sd (P := { nx := fun ρ => False, rt := fun vl => ∃ d, vl = .atK d a es ∧ post d, bk := fun _ => False, ct := fun _ => False }) (rel_startK o hl k1 k2 k3 k4 k5) ⟨fun _ _ _ h => h.elim, fun _ _ _ h => h.elim, fun _ _ _ h => h.elim, fun {G' H' pl' v vl} b c r hpost => ?_, ?_⟩ (hp ds es post hs)
    · cases c
      obtain ⟨d, rfl, hpost⟩ := hpost
      exact hq d v G' H' hpost b r
    · exact fun _ _ _ _ _ h => h.elim
def callKQ (i : Nat) (sp : SpK) (ds : List PV) (ρ : En) (post : Vl → En → Prop) : Prop := ∃ es, ρ[i]? = some (some (.oK es)) ∧ sp ds es fun d => post (.sh d) (ρ.set i (some (.oK es)))
def retKQ (m : Nat) (vl : Vl) (ρ : En) (P : PEnds) : Prop := ∃ d a es, vl = .sh d ∧ ρ[m]? = some (some (.atK (.obj a) a es)) ∧ P.rt (.atK d a es)
section
variable {ρ : En} {P : PEnds} {m i : Nat} {ds : List PV}
theorem u_callK {sp : SpK} {p : PX (List PV)} {post : Vl → En → Prop} (h : p ρ fun ds => callKQ i sp ds ρ post) : pCallK i sp p ρ post := h
theorem u_callKQ {sp : SpK} {es : List (Key × PV)} {post : Vl → En → Prop} (h1 : ρ[i]? = some (some (.oK es))) (h : sp ds es fun d => post (.sh d) (ρ.set i (some (.oK es)))) : callKQ i sp ds ρ post := ⟨es, h1, h⟩
theorem u_retK {p : En → (Vl → En → Prop) → Prop} (h : p ρ fun vl ρ' => retKQ m vl ρ' P) : pRetK m p P ρ := h
theorem u_retKQ {a : Addr} {d : PV} {es : List (Key × PV)} (h1 : ρ[m]? = some (some (.atK (.obj a) a es))) (h : P.rt (.atK d a es)) : retKQ m (.sh d) ρ P := ⟨d, a, es, rfl, h1, h⟩
end
/-! ## small things more -/
abbrev Txt := List Nat
/-- a def of which nothing is promised (the bottom of a recursion) -/
theorem At.cal0 {P : Program} {w : World} {K : PySem.W.Frag} {PO : POk} {mg : Str → Option Value} {base : Heap} {x : Str} {st : Stmt} (ps : List Str) (k : Nat) (F : At K mg x st)
    (hb : ∀ (kV doc pm : Value) (an : Option Addr) (cdv ct : Value) (us : List Value), us.length = ps.length → bindArgs (PySem.W.fnOf x x (defArgs st) (defBody st) (defScope st) .none kV doc pm an cdv ct) ⟨us, []⟩ = pure (ps.zip us)) : CalV P w K PO mg base k x (fun _ _ => False) := by
  obtain ⟨f, fd, F, hm, b⟩ := F.ex
  exact ⟨f, fd, ps, ⟨fun vs H Q E h => (by obtain ⟨G, pl, ds, post, _, _, hs, _⟩ := h; exact hs.elim), fun A outer s H args us vs Q E _ _ _ _ h => (by obtain ⟨G, pl, ds, post, _, _, hs, _⟩ := h; exact hs.elim)⟩, hm, F.kp, b ps hb⟩
section
variable {n : Bool} {post : PV → Prop}
theorem u_isNT {ds : List PV} (h : post (.bl n)) : fIsN' n (.tup ds) .non post := u_isN0 (fun z => nomatch z) (fun z => nomatch z) h
theorem u_isNL {ds : List PV} (h : post (.bl n)) : fIsN' n (.lst ds) .non post := u_isN0 (fun z => nomatch z) (fun z => nomatch z) h
theorem u_isNI {i : Int} (h : post (.bl n)) : fIsN' n (.int i) .non post := u_isN0 (fun z => nomatch z) (fun z => nomatch z) h
theorem u_isNS {t : List Nat} (h : post (.bl n)) : fIsN' n (.str t) .non post := u_isN0 (fun z => nomatch z) (fun z => nomatch z) h
theorem u_isNB {b : Bool} (h : post (.bl n)) : fIsN' n (.bl b) .non post := u_isN0 (fun z => nomatch z) (fun z => nomatch z) h
end
def sortSetQ (ds : List PV) (post : Vl → Prop) : Prop := ∃ ls : List (List Nat), ds = ls.map .str ∧ ls.length < 64 ∧ ∀ ms : List (List Nat), (∀ m ∈ ms, m ∈ ls) → ms.length ≤ ls.length → (0 < ls.length → 0 < ms.length) → post (.ol (ms.map .str))
theorem u_sortSet {p : PX (List PV)} {ρ : En} {post : Vl → Prop} (h : p ρ fun ds => sortSetQ ds post) : pSortSet p ρ post := h
theorem u_sortSetQ {ls : List (List Nat)} {post : Vl → Prop} (h0 : ls.length < 64) (h : ∀ ms : List (List Nat), (∀ m ∈ ms, m ∈ ls) → ms.length ≤ ls.length → post (.ol (ms.map .str))) : sortSetQ (ls.map .str) post := ⟨ls, rfl, h0, fun ms a b _ => h ms a b⟩
/-- .. and it is not empty where the list is not -/
theorem u_sortSetN {ls : List (List Nat)} {post : Vl → Prop} (h0 : ls.length < 64) (h : ∀ ms : List (List Nat), (∀ m ∈ ms, m ∈ ls) → ms.length ≤ ls.length → (0 < ls.length → 0 < ms.length) → post (.ol (ms.map .str))) : sortSetQ (ls.map .str) post := ⟨ls, rfl, h0, h⟩
/-! ### lists told weakly -/
theorem lift_map {α β : Type} {T : α → Prop} {f : α → β} : ∀ ys : List β, (∀ y ∈ ys, ∃ a, T a ∧ y = f a) → ∃ as : List α, ys = as.map f ∧ ∀ a ∈ as, T a
  | [], _ => ⟨[], rfl, fun _ h => nomatch h⟩
  | y :: ys, h => by
    obtain ⟨a, ha, rfl⟩ := h y List.mem_cons_self
    obtain ⟨as, e, hs⟩ := lift_map ys fun z hz => h z (List.mem_cons_of_mem _ hz)
    exact ⟨a :: as, by rw [e]; rfl, fun b hb => (List.mem_cons.mp hb).elim (fun e => e ▸ ha) (hs b)⟩
/-- each item of a list comprehension is one of some kind -/
theorem u_lcAll {α : Type} (T : α → Prop) (f : α → PV) {ds : List PV} {ρ : En} {q : PV → En → (En → Prop) → Prop} {pe : PX PV} {vs : List Nat} {post : Vl → Prop}
    (h : ∀ (i : Nat) d (R : PV → Prop), ds[i]? = some d → (∀ a, T a → R (f a)) → q d (wipeN ρ vs) fun ρ2 => pe ρ2 R) (k : ∀ as : List α, as.length = ds.length → (∀ a ∈ as, T a) → post (.ol (as.map f))) : lcQ q pYes pe vs ρ post ds := by
  refine u_lcAny (fun y => ∃ a, T a ∧ y = f a) (fun i d R hd hR => h i d R hd fun a ha => hR _ ⟨a, ha, rfl⟩) fun ys hl hys => ?_
  obtain ⟨as, rfl, hs⟩ := lift_map ys hys
  exact k as (by rw [← hl, List.length_map]) hs
theorem erase_perm0 {α : Type} : ∀ (l : List α) (v : Nat) (c : α), l[v]? = some c → (c :: l.eraseIdx v).Perm l
  | [], _, _, h => by simp at h
  | a :: l, 0, c, h => by
    cases h
    exact .refl _
  | a :: l, v + 1, c, h => by
    have := erase_perm0 l v c (by simpa using h)
    exact (List.Perm.swap _ _ _).trans (this.cons a)
theorem erase_perm {α : Type} {l ps : List α} {v : Nat} {c : α} (h : l[v]? = some c) : (l.eraseIdx v ++ (ps ++ [c])).Perm (l ++ ps) := by
  have h2 : (l.eraseIdx v ++ (ps ++ [c])).Perm (c :: (l.eraseIdx v ++ ps)) := by
    rw [← List.append_assoc]
    exact List.perm_append_singleton _ _
  exact h2.trans ((erase_perm0 l v c h).append_right ps)
theorem erase_map {α β : Type} (f : α → β) : ∀ (l : List α) (v : Nat), (l.map f).eraseIdx v = (l.eraseIdx v).map f
  | [], _ => by simp
  | _ :: _, 0 => rfl
  | a :: l, v + 1 => by simp [erase_map f l v]
theorem fdiv_small {a b : Int} {n : Int} (h0 : 0 ≤ a) (h1 : a ≤ n) (hb : 0 < b) : 0 ≤ a / b ∧ a / b ≤ n :=
  ⟨Int.ediv_nonneg h0 (Int.le_of_lt hb), Int.le_trans (Int.ediv_le_self _ h0) h1⟩
theorem atI_mod {α : Type} {l : List α} {x : Int} (h0 : 0 ≤ x) (h1 : x < l.length) : ∃ c, atI l x = some c ∧ c ∈ l := by
  obtain ⟨k, rfl⟩ := Int.eq_ofNat_of_zero_le h0
  have hk : k < l.length := by omega
  exact ⟨l[k], atI_nat (List.getElem?_eq_getElem hk), List.getElem_mem hk⟩
/-! ### data of a depth: equal to itself -/
def Dn : Nat → PV → Prop
  | n, .tup ds => match n with
    | 0 => False
    | n + 1 => ∀ d ∈ ds, Dn n d
  | n, .lst ds => match n with
    | 0 => False
    | n + 1 => ∀ d ∈ ds, Dn n d
  | _, .str t => ∀ a ∈ t, a < 1114112
  | _, .non => True
  | _, .bl _ => True
  | _, .int _ => True
  | _, _ => False
theorem dn_tup {n : Nat} {ds : List PV} (h : ∀ d ∈ ds, Dn n d) : Dn (n + 1) (.tup ds) := by unfold Dn; exact h
theorem dn_lst {n : Nat} {ds : List PV} (h : ∀ d ∈ ds, Dn n d) : Dn (n + 1) (.lst ds) := by unfold Dn; exact h
theorem dn_str {n : Nat} {t : List Nat} (h : ∀ a ∈ t, a < 1114112) : Dn n (.str t) := by unfold Dn; exact h
theorem dn_int {n : Nat} {i : Int} : Dn n (.int i) := by unfold Dn; trivial
theorem dn_bl {n : Nat} {i : Bool} : Dn n (.bl i) := by unfold Dn; trivial
theorem dn_non {n : Nat} : Dn n .non := by unfold Dn; trivial
theorem strOk_S {t : List Nat} (h : ∀ a ∈ t, a < 1114112) : PyData.strOk (S t) = true := by
  unfold PyData.strOk S
  rw [Array.all_eq_true]
  intro i hi
  exact decide_eq_true (h _ (by simpa using Array.getElem_mem hi))
def DnF (n : Nat) (d : PV) : Prop := d.dat = true ∧ PyData.canLay0 d.toD = true ∧ PyData.depth d.toD ≤ n ∧ PyData.eqv d.toD d.toD = true
theorem dn_all {n : Nat} : ∀ ds : List PV, (∀ d ∈ ds, DnF n d) → PV.dats ds = true ∧ PyData.canLayAll0 (PV.toDs ds) = true ∧ PyData.depthAll (PV.toDs ds) ≤ n ∧ PyData.eqvAll (PV.toDs ds) (PV.toDs ds) = true
  | [], _ => by
    unfold PV.dats PV.toDs PyData.canLayAll0 PyData.depthAll PyData.eqvAll
    exact ⟨rfl, rfl, Nat.zero_le _, rfl⟩
  | d :: ds, h => by
    obtain ⟨a1, a2, a3, a4⟩ := h d List.mem_cons_self
    obtain ⟨b1, b2, b3, b4⟩ := dn_all ds fun e he => h e (List.mem_cons_of_mem _ he)
    unfold PV.dats PV.toDs PyData.canLayAll0 PyData.depthAll PyData.eqvAll
    rw [a1, a2, a4, b1, b2, b4]
    exact ⟨rfl, rfl, by omega, rfl⟩
theorem dn_facts : ∀ (n : Nat) (d : PV), Dn n d → DnF n d
  | n, .non, _ => by unfold DnF PV.dat PV.toD PyData.canLay0 PyData.depth PyData.eqv; exact ⟨rfl, rfl, Nat.zero_le _, rfl⟩
  | n, .bl b, _ => by unfold DnF PV.dat PV.toD PyData.canLay0 PyData.depth PyData.eqv; exact ⟨rfl, rfl, Nat.zero_le _, by simp⟩
  | n, .int b, _ => by unfold DnF PV.dat PV.toD PyData.canLay0 PyData.depth PyData.eqv; exact ⟨rfl, rfl, Nat.zero_le _, by simp⟩
  | n, .str b, h => by
    unfold Dn at h
    unfold DnF PV.dat PV.toD PyData.canLay0 PyData.depth PyData.eqv
    exact ⟨rfl, strOk_S h, Nat.zero_le _, by simp⟩
  | 0, .tup ds, h => by unfold Dn at h; exact h.elim
  | 0, .lst ds, h => by unfold Dn at h; exact h.elim
  | n + 1, .tup ds, h => by
    unfold Dn at h
    obtain ⟨b1, b2, b3, b4⟩ := dn_all ds fun d hd => dn_facts n d (h d hd)
    unfold DnF PV.dat PV.toD PyData.canLay0 PyData.depth PyData.eqv
    exact ⟨b1, b2, by omega, b4⟩
  | n + 1, .lst ds, h => by
    unfold Dn at h
    obtain ⟨b1, b2, b3, b4⟩ := dn_all ds fun d hd => dn_facts n d (h d hd)
    unfold DnF PV.dat PV.toD PyData.canLay0 PyData.depth PyData.eqv
    exact ⟨b1, b2, by omega, b4⟩
  | n, .dK _, h => by unfold Dn at h; exact h.elim
  | n, .dT _, h => by unfold Dn at h; exact h.elim
  | n, .ty _, h => by unfold Dn at h; exact h.elim
  | n, .pool, h => by unfold Dn at h; exact h.elim
  | n, .obj _, h => by unfold Dn at h; exact h.elim
  | n, .scr _, h => by unfold Dn at h; exact h.elim
theorem dn_shaped {k : Nat} {d : PV} (h : Dn k d) (hk : k ≤ 64) : SeqAt.shaped d.toD = true := by
  obtain ⟨_, h2, h3, _⟩ := dn_facts k d h
  unfold SeqAt.shaped
  rw [h2]
  exact decide_eq_true (Nat.le_trans h3 hk)
theorem u_eqSelf {k : Nat} {d : PV} {n : Bool} {post : PV → Prop} (h : Dn k d) (hk : k ≤ 64) (q : post (.bl (!n))) : fEqD n d d post := by
  obtain ⟨h1, _, _, h4⟩ := dn_facts k d h
  refine u_eqD h1 h1 (dn_shaped h hk) (dn_shaped h hk) ?_
  rw [h4]
  cases n <;> exact q
/-! ## {k: v, ..} with keys that are numbers or texts -/
def Rp (K : PySem.W.Frag) (pl : PL) (G : Hp) : List (PV × PV) → List (V × V) → Prop
  | [], xs => xs = []
  | (d, e) :: ds, xs => ∃ x y r, xs = (x, y) :: r ∧ Rs K pl G d x ∧ Rs K pl G e y ∧ Rp K pl G ds r
def keyed : List (PV × PV) → Option (List (Key × PV))
  | [] => some []
  | (y, d) :: r => match keyOf y, keyed r with
    | some k, some s => some ((k, d) :: s)
    | _, _ => none
section
variable {K : PySem.W.Frag} {PO : POk} {X : Cx} {pl pl' : PL} {G G' : Hp}
theorem Rp.mono (s : Same G G') (p : plLe pl pl') : ∀ {ds : List (PV × PV)} {xs : List (V × V)}, Rp K pl G ds xs → Rp K pl' G' ds xs
  | [], _, h => h
  | (d, e) :: ds, xs, h => by
    obtain ⟨x, y, r, rfl, h1, h2, h3⟩ := h
    exact ⟨x, y, r, rfl, Rs.mono s p _ _ h1, Rs.mono s p _ _ h2, Rp.mono s p h3⟩
theorem keyed_ok : ∀ {ds : List (PV × PV)} {ps : List (V × V)} {kvs : List (Key × PV)}, Rp K pl G ds ps → keyed ds = some kvs → ∃ xs : List (Key × V), ps = xs.map (fun kv => (kV kv.1, kv.2)) ∧ Rk K pl G kvs xs ∧ xs.length = ds.length
  | [], ps, kvs, h, e => by
    cases e
    rw [show ps = [] from h]
    exact ⟨[], rfl, Rk.nil, rfl⟩
  | (d, e) :: ds, ps, kvs, h, q => by
    obtain ⟨x, y, r, rfl, h1, h2, h3⟩ := h
    unfold keyed at q
    cases e1 : keyOf d with
    | none => rw [e1] at q; cases q
    | some k =>
      cases e2 : keyed ds with
      | none => rw [e1, e2] at q; cases q
      | some s =>
        rw [e1, e2] at q
        cases q
        obtain ⟨xs, rfl, k1, k2⟩ := keyed_ok h3 e2
        refine ⟨(k, y) :: xs, ?_, Rk.cons h2 k1, by rw [List.length_cons, List.length_cons, k2]⟩
        rw [List.map_cons, keyOf_ok h1 e1]
def mergeD (kvs more : List (Key × PV)) : List (Key × PV) := more.foldl (fun acc kv => putD acc kv.1 kv.2) kvs
theorem rk_merge : ∀ {ms : List (Key × PV)} {zs : List (Key × V)} {kvs : List (Key × PV)} {xs : List (Key × V)}, Rk K pl G kvs xs → Rk K pl G ms zs → (xs.map (·.1)).Nodup → Rk K pl G (mergeD kvs ms) (mergeK xs zs)
  | [], zs, kvs, xs, h, hz, _ => by rw [rk_nil hz]; exact h
  | (k, d) :: ms, zs, kvs, xs, h, hz, nd => by
    obtain ⟨y, r, rfl, h1, h2⟩ := rk_cons hz
    show Rk K pl G (mergeD (putD kvs k d) ms) (mergeK (putK xs k y) r)
    rw [put_eq xs k y nd]
    exact rk_merge (rk_put h1 k h) h2 (putD_nd nd)
theorem mergeD_len : ∀ (ms kvs : List (Key × PV)), (mergeD kvs ms).length ≤ kvs.length + ms.length
  | [], kvs => by show kvs.length ≤ kvs.length + 0; omega
  | (k, d) :: ms, kvs => by
    have h1 := mergeD_len ms (putD kvs k d)
    have h2 := putD_len k d kvs
    show (mergeD (putD kvs k d) ms).length ≤ _
    rw [List.length_cons]
    omega
def SPs (K : PySem.W.Frag) (PO : POk) (trs : List (TE × TE)) (p : PX (List (PV × PV))) : Prop :=
  ∀ {B G0 G H : Hp} {pl : PL} {σ : L2.St} {ρ : En} {Q : List (V × V) → Hp → Prop} {post : List (PV × PV) → Prop}, Rel K PO B G0 G H pl σ ρ → p ρ post → (∀ ps es G' H' pl', Stp PO G H pl G' H' pl' → Rp K pl' G' es ps → post es → Q ps H') → tPairs trs σ H Q
structure QPs (K : PySem.W.Frag) (PO : POk) (X : Cx) (pos : Pos) (keys : List (Option Expr)) (values : List Expr) (trs : List (TE × TE)) (p : PX (List (PV × PV))) : Prop where
  pe : PPs X pos keys values trs
  sd : SPs K PO trs p
def pPsNil : PX (List (PV × PV)) := fun _ post => post []
def pPsCons (pk pv : PX PV) (r : PX (List (PV × PV))) : PX (List (PV × PV)) := fun ρ post => pk ρ fun y => pv ρ fun d => r ρ fun es => post ((y, d) :: es)
theorem qps_nil {pos : Pos} : QPs K PO X pos [] [] [] pPsNil := ⟨pps_nil, fun {B G0 G H pl σ ρ Q post} r hp hq => hq [] [] G H pl (Stp.refl r.ok) rfl hp⟩
theorem qps_cons {pos : Pos} {k v : Expr} {ks : List (Option Expr)} {vs : List Expr} {tk tv : TE} {trs : List (TE × TE)} {pk pv : PX PV} {pr : PX (List (PV × PV))} (hk : QX rS K PO X k tk pk) (hv : QX rS K PO X v tv pv) (hr : QPs K PO X pos ks vs trs pr) :
    QPs K PO X pos (some k :: ks) (v :: vs) ((tk, tv) :: trs) (pPsCons pk pv pr) :=
  ⟨pps_cons hk.pe hv.pe hr.pe, fun {B G0 G H pl σ ρ Q post} r hp hq => hk.sd r hp fun x dx G1 H1 pl1 s1 hx hp1 => hv.sd (r.step s1) hp1 fun y dy G2 H2 pl2 s2 hy hp2 => hr.sd ((r.step s1).step s2) hp2 fun ps es G3 H3 pl3 s3 he hp3 => by
    have s23 := s2.trans s1.ok s3
    exact hq ((x, y) :: ps) ((dx, dy) :: es) G3 H3 pl3 (s1.trans r.ok s23) ⟨x, y, ps, rfl, Rs.mono s23.g s23.le _ _ hx, Rs.mono s3.g s3.le _ _ hy, he⟩ hp3⟩
theorem Stp.updF {PO : POk} {G H G1 H1 : Hp} {pl pl1 : PL} {a : Addr} {u : HO} (s : Stp PO G H pl G1 H1 pl1) (hn : H a = none) (g1 : G1 a = none) (n : a ∉ pads pl1) : Stp PO G H pl G1 (upd H1 a u) pl1 := by
  refine ⟨s.g, s.gn, fun b o eb hb => ?_, s.pl, ⟨fun b o eb => ?_, fun v as ep => ⟨PO.ext _ _ _ _ (s.ok.pok v as ep).1 fun b hb => upd_ne fun z => ?_, (s.ok.pok v as ep).2⟩⟩⟩
  · rw [upd_ne (ne_of_none eb hn)]
    exact s.h b o eb hb
  · rw [upd_ne fun z => by subst z; rw [g1] at eb; cases eb]
    exact s.ok.sub b o eb
  · subst z
    exact n (by rw [ep]; exact hb)
def pDisp (p : PX (List (PV × PV))) : PX Vl := fun ρ post => p ρ fun es => ∃ kvs, keyed es = some kvs ∧ es.length ≤ 15 ∧ post (.oK (mergeD [] kvs))
theorem qo_disp {pos : Pos} {keys : List (Option Expr)} {values : List Expr} {trs : List (TE × TE)} {p : PX (List (PV × PV))} (h : QPs K PO X pos keys values trs p) (hall : keys.all (·.isSome) = true) (hl : keys.length = values.length) (h0 : keys ≠ []) (h15 : keys.length ≤ 15) : QO K PO X (.Dict keys values pos) (tDisp trs) (pDisp p) :=
  ⟨pe_disp h.pe hall hl h0 h15, fun {B G0 G H pl σ ρ Q post} r hp hq => fun a ha => by
    have s0 : Stp PO G H pl G (upd H a (.dK [])) pl := Stp.tmp r.ok ha
    have hap : a ∉ pads pl := fun z => r.ok.live a z ha
    refine h.sd (r.step s0) hp fun ps es G1 H1 pl1 s1 he hp1 => ?_
    obtain ⟨kvs, h1, h2, h3⟩ := hp1
    obtain ⟨xs, rfl, k1, k2⟩ := keyed_ok he h1
    have hap1 : a ∉ pads pl1 := by rw [show pl1 = pl from s1.pl]; exact hap
    have e1 : H1 a = some (.dK []) := s1.h a _ upd_same hap1
    have g1 : G1 a = none := (s1.gn a (.dK upd_same)).trans (r.ok.sub.free ha)
    refine ⟨e1, xs, rfl, by omega, ?_⟩
    refine hq _ (.oK (mergeD [] kvs)) [a] G1 _ pl1 ((s0.trans r.ok s1).updF ha g1 hap1) ⟨a, _, rfl, rfl, upd_same, rk_merge Rk.nil k1 List.nodup_nil, ?_⟩ (by simp) (fun b hb => ?_) h3
    · have h4 := mergeD_len kvs []
      have h5 := congrArg List.length (rk_keys k1)
      rw [List.length_map, List.length_map] at h5
      rw [List.length_nil] at h4
      omega
    · rw [List.mem_singleton.mp hb]
      exact ⟨ha, g1, hap1⟩⟩
/-! ### its walk -/
variable {ρ : En} {es : List (PV × PV)} {kvs : List (Key × PV)} {post : Vl → Prop}
theorem u_psNil {post : List (PV × PV) → Prop} (h : post []) : pPsNil ρ post := h
theorem u_psCons {pk pv : PX PV} {r : PX (List (PV × PV))} {post : List (PV × PV) → Prop} (h : pk ρ fun y => pv ρ fun d => r ρ fun es => post ((y, d) :: es)) : pPsCons pk pv r ρ post := h
def dispQ (es : List (PV × PV)) (post : Vl → Prop) : Prop := ∃ kvs, keyed es = some kvs ∧ es.length ≤ 15 ∧ post (.oK (mergeD [] kvs))
theorem u_disp {p : PX (List (PV × PV))} (h : p ρ fun es => dispQ es post) : pDisp p ρ post := h
theorem u_dispQ (h1 : keyed es = some kvs) (h2 : es.length ≤ 15) (h : post (.oK (mergeD [] kvs))) : dispQ es post := ⟨kvs, h1, h2, h⟩
end
/-! ## the third kind of pool: {'seed': a number, 'great': great numbers} -/
abbrev kSeed : Key := .inr (S [115, 101, 101, 100])
abbrev kGreat : Key := .inr (S [103, 114, 101, 97, 116])
theorem kne : kSeed ≠ kGreat := by decide
theorem val_great (a b : V) : valV [(kSeed, a), (kGreat, b)] kGreat = some b := by
  have e := look_cons kSeed kGreat a [(kGreat, b)]
  rw [if_neg kne] at e
  have e2 := look_cons kGreat kGreat b []
  rw [if_pos rfl] at e2
  exact e.trans e2
theorem val_seed (a b : V) : valV [(kSeed, a), (kGreat, b)] kSeed = some a := by
  have e := look_cons kSeed kSeed a [(kGreat, b)]
  rw [if_pos rfl] at e
  exact e
theorem put_seed (a b c : V) : putK [(kSeed, a), (kGreat, b)] kSeed c = [(kSeed, c), (kGreat, b)] := by
  rw [put_eq _ _ _ (by simp [kne])]
  unfold putD
  rw [if_pos rfl]
theorem merge_two {k1 k2 : Key} {a b : PV} (h : k1 ≠ k2) : mergeD [] [(k1, a), (k2, b)] = [(k1, a), (k2, b)] := by
  show (if k1 = k2 then (k1, b) :: [] else (k1, a) :: putD [] k2 b) = _
  rw [if_neg h]
  rfl
def POF : POk := ⟨fun v as H => ∃ (p g : Addr) (x : Int) (ns : List Int), v = .ref p ∧ as = [p, g] ∧ p ≠ g ∧ H p = some (.dK [(kSeed, .int x), (kGreat, .ref g)]) ∧ H g = some (.lst (ns.map V.int)) ∧ ns.length ≤ 63,
  fun v as H H' ⟨p, g, x, ns, h1, h2, h3, h4, h5, h6⟩ h => ⟨p, g, x, ns, h1, h2, h3, by rw [h p (by rw [h2]; simp)]; exact h4, by rw [h g (by rw [h2]; simp)]; exact h5, h6⟩,
  fun v as H ⟨p, g, x, ns, h1, h2, h3, h4, h5, h6⟩ a ha => by
    rw [h2] at ha
    rcases List.mem_cons.mp ha with rfl | ha
    · exact .dK h4
    · rw [List.mem_singleton.mp ha]; exact .lst h5⟩
def shapeF (kvs : List (Key × PV)) : Prop := ∃ (x : Int) (ns : List Int), kvs = [(kSeed, .int x), (kGreat, .lst (ns.map .int))] ∧ ns.length ≤ 63
def sp_law_pool3 : SpV := fun ds post => ∃ ns : List Int, ds = [.scr ns] ∧ ns.length ≤ 63 ∧ ∀ kvs, shapeF kvs → post (.oK kvs)
section
variable {P : Program} {w : World} {K : PySem.W.Frag} {PO : POk} {mg : Str → Option Value} {base : Heap}
theorem law_okD {st : Stmt} {st0 : Stmt} {rest : List Stmt} {f : Addr} {fd : FuncData} {N : List Str} {k n : Nat} {spP : SpV} {shape : List (Key × PV) → Prop} (F : Fun K "law" "law" st f fd) (S : FnScope N ["script"] (defScope st)) (hb : defBody st = st0 :: rest) (hn : N.length = n + 2)
    (hp : ∀ ns : List Int, ns.length ≤ 63 → spP [.scr ns] fun vl => ∃ ds, vl = .oK ds ∧ shape ds)
    (mk : ∀ (G H : Hp) (a : Addr) (xs : List (Key × V)) (ds : List (Key × PV)), shape ds → H a = some (.dK xs) → Rk K none G ds xs → Same G H → G a = none → ∃ as, PO.ok (.ref a) as H)
    (hbody : ∀ (cdv : Value) (A : Around) (outer : List Env) (s : Shared) (H : Hp) (E : XK), Room k (A.deeper (envOfC "law" (defScope st) s.heap.objs.size f cdv)) →
      PS (cxOf CX0 P w K mg base N "law" (defScope st) f cdv A outer s H E).nox st0 (tAsg (tCall (hSp K noPool spP) [] E0 (tCons (tVar 0) tNil)) (gName 1)) ∧
      ∃ t p, QB K PO (fun _ _ _ _ => False) (cxOf CX0 P w K mg base N "law" (defScope st) f cdv A outer s H E).nox rest t p ∧
        p { nx := fun _ => False, rt := fun vl => vl = .sh (.bl true), bk := fun _ => False, ct := fun _ => False } (none :: some (.sh .pool) :: List.replicate n none)) : FnOk P w K mg base CX0 (k + 1) f fd ["script"] (spLawV K) := by
  refine F.ok S (fun vs H Q E h => ?_) (fun cdv A outer s H vs Q E hr h => ?_)
  · obtain ⟨a, ns, rfl, _⟩ := h; rfl
  · obtain ⟨a, ns, rfl, hs, hl, hq⟩ := h
    obtain ⟨h1, t, p, q, hpp⟩ := hbody cdv A outer s H E hr
    rw [hb]
    refine ⟨_, pss_cons h1 q.pe, ?_⟩
    refine ⟨.ref a, rfl, ?_⟩
    show hSp K noPool spP ([.ref a] ++ []) H _ E0
    refine ⟨H, none, [.scr ns], _, ⟨Same.refl _, fun _ _ e => (nomatch e)⟩, Rl.cons (Rs.scr hs (by omega)) Rl.nil, hp ns hl, fun vl v G' H' hpost sg r => ?_⟩
    obtain ⟨ds, rfl, hsh⟩ := hpost
    obtain ⟨v', A', e1, ⟨b, xs, rfl, rfl, k1, k2, k3⟩, _, n1⟩ := r.var (i := 0) rfl
    cases e1
    obtain ⟨as, ok⟩ := mk G' H' b xs ds hsh k1 k2 r.ok.sub (n1 b (by simp)).1
    have est : (L2.start N [.ref a]).set 1 (some (.ref b)) = some (.ref a) :: some (.ref b) :: List.replicate n none := by
      unfold L2.start
      rw [hn]
      show (some (V.ref a) :: List.replicate (n + 2 - 1) none).set 1 _ = _
      rw [show n + 2 - 1 = n + 1 from rfl, List.replicate_succ]
      rfl
    show t _ ((L2.start N [.ref a]).set 1 (some (.ref b))) H'
    rw [est]
    refine q.sd (P := { nx := fun _ => False, rt := fun vl => vl = .sh (.bl true), bk := fun _ => False, ct := fun _ => False }) (rel_law ok (some (.ref a)) n) ⟨fun _ _ _ h => h.elim, fun _ _ _ h => h.elim, fun _ _ _ h => h.elim, fun {G2 H2 pl2 v2 vl2} _ _ r2 e2 => ?_, fun _ _ _ _ _ h => h.elim⟩ hpp
    subst e2
    obtain ⟨v3, A3, e3, e4, _⟩ := r2.var (i := 0) rfl
    cases e3
    rw [rs_bl e4.2]
    exact hq H2
/-- the making of a pool of the third kind -/
theorem mk_POF {G H : Hp} {a : Addr} {xs : List (Key × V)} {ds : List (Key × PV)} (hs : shapeF ds) (ha : H a = some (.dK xs)) (hr : Rk K none G ds xs) (sg : Same G H) (hn : G a = none) : ∃ as, POF.ok (.ref a) as H := by
  obtain ⟨x, ns, rfl, hl⟩ := hs
  obtain ⟨v1, r, rfl, h1, h2⟩ := rk_cons hr
  obtain ⟨v2, r, rfl, h3, h4⟩ := rk_cons h2
  obtain ⟨b, ys, rfl, h7, h8, h9⟩ := rs_lst h3
  rw [rk_nil h4, rs_int (K := K) (pl := none) (G := G) h1] at ha
  have hz := rl_int h8
  subst hz
  exact ⟨[a, b], a, b, x, ns, rfl, rfl, (fun e => by rw [← e, hn] at h7; cases h7), ha, sg b _ h7, hl⟩
end
/-! ## a dict that owns its lists -/
abbrev zpD (kvs : List (Key × List PV)) (as : List Addr) : List (Key × V) := kvs.zipWith (fun kv b => (kv.1, V.ref b)) as
theorem zpd_look (k : Key) : ∀ (kvs : List (Key × List PV)) (as : List Addr), as.length = kvs.length →
    (∀ ds, lookD kvs k = some ds → ∃ j b, kvs[j]? = some (k, ds) ∧ as[j]? = some b ∧ valV (zpD kvs as) k = some (.ref b) ∧ ∀ ds', putD kvs k ds' = kvs.set j (k, ds')) ∧ (lookD kvs k = none → valV (zpD kvs as) k = none ∧ k ∉ kvs.map (·.1))
  | [], as, h => ⟨fun ds e => (nomatch e), fun _ => by cases as with | nil => exact ⟨rfl, by simp⟩ | cons _ _ => cases h⟩
  | (k', d) :: kvs, [], h => by cases h
  | (k', d) :: kvs, b :: as, h => by
    obtain ⟨h1, h2⟩ := zpd_look k kvs as (by simpa using h)
    have e1 : valV (zpD ((k', d) :: kvs) (b :: as)) k = if k' = k then some (.ref b) else valV (zpD kvs as) k := look_cons k' k (V.ref b) (zpD kvs as)
    rw [e1, look_cons]
    by_cases hk : k' = k
    · rw [if_pos hk, if_pos hk]
      refine ⟨fun ds e => ?_, fun e => nomatch e⟩
      cases e
      refine ⟨0, b, by rw [hk]; rfl, rfl, rfl, fun ds' => ?_⟩
      unfold putD
      rw [if_pos hk, hk]
      rfl
    · rw [if_neg hk, if_neg hk]
      refine ⟨fun ds e => ?_, fun e => ⟨(h2 e).1, ?_⟩⟩
      · obtain ⟨j, c, q1, q2, q3, q4⟩ := h1 ds e
        refine ⟨j + 1, c, q1, q2, q3, fun ds' => ?_⟩
        unfold putD
        rw [if_neg hk, q4]
        rfl
      · rw [List.map_cons, List.mem_cons]
        exact fun z => z.elim (fun z => hk z.symm) (h2 e).2
theorem zpd_set (k : Key) (ds : List PV) : ∀ (kvs : List (Key × List PV)) (as : List Addr) (j : Nat) (ds0 : List PV), kvs[j]? = some (k, ds0) → zpD (kvs.set j (k, ds)) as = zpD kvs as
  | [], as, j, ds0, h => by simp at h
  | kv :: kvs, [], j, ds0, h => by simp [zpD]
  | kv :: kvs, b :: as, 0, ds0, h => by
    cases h
    rfl
  | kv :: kvs, b :: as, j + 1, ds0, h => by
    show zpD (kv :: kvs.set j (k, ds)) (b :: as) = _
    have := zpd_set k ds kvs as j ds0 (by simpa using h)
    unfold zpD at *
    rw [List.zipWith_cons_cons, List.zipWith_cons_cons, this]
theorem zpd_app (k : Key) (d : List PV) (c : Addr) (kvs : List (Key × List PV)) (as : List Addr) (h : as.length = kvs.length) : zpD (kvs ++ [(k, d)]) (as ++ [c]) = zpD kvs as ++ [(k, .ref c)] := by
  unfold zpD
  rw [List.zipWith_append h.symm]
  rfl
theorem zpd_keys : ∀ (kvs : List (Key × List PV)) (as : List Addr), as.length = kvs.length → (zpD kvs as).map (·.1) = kvs.map (·.1)
  | [], as, h => by simp [zpD]
  | kv :: kvs, [], h => by cases h
  | kv :: kvs, b :: as, h => by
    have := zpd_keys kvs as (by simpa using h)
    unfold zpD at *
    rw [List.zipWith_cons_cons, List.map_cons, List.map_cons, this]
section
variable {K : PySem.W.Frag} {PO : POk} {X : Cx} {W : WX}
/-- the lists of a dict are changed one at a time -/
theorem RV.oDIn {pl : PL} {G H : Hp} {a : Addr} {as : List Addr} {kvs : List (Key × List PV)} {j : Nat} {b : Addr} {k : Key} {ds ds' : List PV} {xs' : List V} (hj : kvs[j]? = some (k, ds)) (hb : as[j]? = some b) (nd : (a :: as).Nodup) (k1 : H a = some (.dK (zpD kvs as))) (k2 : as.length = kvs.length) (k2' : kvs.length ≤ 16777216)
    (k3 : ∀ (i : Nat) (b : Addr) (kv : Key × List PV), as[i]? = some b → kvs[i]? = some kv → ∃ xs, H b = some (.lst xs) ∧ Rl K pl G kv.2 xs ∧ kv.2.length ≤ 16777216) (hr : Rl K pl G ds' xs') (hl : ds'.length ≤ 16777216) :
    RV K pl G (upd H b (.lst xs')) (.oD (kvs.set j (k, ds'))) (.ref a) (a :: as) := by
  rw [List.nodup_cons] at nd
  have hjl := (List.getElem?_eq_some_iff.mp hj).1
  refine ⟨a, as, rfl, rfl, ?_, by rw [List.length_set, k2], by rw [List.length_set]; exact k2', fun i c kv e3 e4 => ?_⟩
  · rw [upd_ne fun z => nd.1 (by rw [z]; exact List.mem_of_getElem? hb), k1, show (kvs.set j (k, ds')).zipWith (fun kv b => (kv.1, V.ref b)) as = zpD (kvs.set j (k, ds')) as from rfl, zpd_set k ds' kvs as j ds hj]
  · by_cases hi : i = j
    · subst hi
      rw [hb] at e3
      cases e3
      rw [List.getElem?_set_self hjl] at e4
      cases e4
      exact ⟨xs', upd_same, hr, hl⟩
    · rw [List.getElem?_set_ne (Ne.symm hi)] at e4
      obtain ⟨xs, w1, w2⟩ := k3 i c kv e3 e4
      refine ⟨xs, ?_, w2⟩
      rw [upd_ne fun z => hi ?_]
      · exact w1
      · subst z
        obtain ⟨i1, i2⟩ := List.getElem?_eq_some_iff.mp e3
        obtain ⟨j1, j2⟩ := List.getElem?_eq_some_iff.mp hb
        have pw := List.pairwise_iff_getElem.mp nd.2
        rcases Nat.lt_trichotomy i j with q | q | q
        · exact absurd (i2.trans j2.symm) (pw i j i1 j1 q)
        · exact q
        · exact absurd (j2.trans i2.symm) (pw j i j1 i1 q)
/-! ### {} -/
def pDnewD : PX Vl := fun _ post => post (.oD [])
theorem qo_dnewD {pos : Pos} : QO K PO X (.Dict [] [] pos) tDNewK pDnewD := ⟨pe_dnewK, fun {B G0 G H pl σ ρ Q post} r hp hq => fun p hn => by
  refine hq _ (.oD []) [p] G _ pl (Stp.tmp r.ok hn) ⟨p, [], rfl, rfl, upd_same, rfl, by simp, fun i b kv e => by simp at e⟩ (by simp) (fun a ha => ?_) hp
  rw [List.mem_singleton.mp ha]
  exact ⟨hn, r.ok.sub.free hn, fun z => r.ok.live p z hn⟩⟩
/-! ### k in d -/
def pDinD (n : Bool) (i : Nat) (py : PX PV) : PX PV := fun ρ post => py ρ fun y => ∃ kvs k, ρ[i]? = some (some (.oD kvs)) ∧ keyOf y = some k ∧ post (.bl (if n then !(lookD kvs k).isSome else (lookD kvs k).isSome))
theorem zpd_some {k : Key} {kvs : List (Key × List PV)} {as : List Addr} (h : as.length = kvs.length) : (valV (zpD kvs as) k).isSome = (lookD kvs k).isSome := by
  obtain ⟨h1, h2⟩ := zpd_look k kvs as h
  cases e : lookD kvs k with
  | none => rw [(h2 e).1]; rfl
  | some d => obtain ⟨j, b, _, _, q, _⟩ := h1 d e; rw [q]; rfl
theorem sx_dinD {i : Nat} {ty : TE} {py : PX PV} (hi : SX rS K PO ty py) : SX rS K PO (tDIn ty (tVar i)) (pDinD false i py) ∧ SX rS K PO (tDNotIn ty (tVar i)) (pDinD true i py) := by
  refine ⟨fun {B G0 G H pl σ ρ Q post} r hp hq => hi r hp fun y e G1 H1 pl1 s1 he hp1 => ?_, fun {B G0 G H pl σ ρ Q post} r hp hq => hi r hp fun y e G1 H1 pl1 s1 he hp1 => ?_⟩
  all_goals
    obtain ⟨kvs, k, ei, hk, hp3⟩ := hp1
    have r1 := r.step s1
    obtain ⟨v, A, ev, ⟨a, as, rfl, rfl, h1, h2, h3, h4⟩, _⟩ := r1.var ei
    refine ⟨.ref a, ev, a, _, rfl, .inl ⟨_, k, .inl h1, keyOf_ok (K := K) (pl := pl1) (G := G1) he hk, rfl⟩, ?_⟩
    rw [zpd_some h2]
    exact hq _ (.bl _) G1 H1 pl1 s1 (show Rs K pl1 G1 _ _ from Rs.bl) hp3
theorem qc_dinD {i : Nat} {x : Str} {p0 : Pos} {e : Expr} {ty : TE} {py : PX PV} (hu : X.A.units + 1 < cLine) (hi : QX rS K PO X e ty py) (ho : PE X (.Name x p0) (tVar i)) : QC K PO X .In e (.Name x p0) (tDIn ty (tVar i)) (pDinD false i py) := ⟨pc_din hu hi.pe ho, (sx_dinD hi.sd).1⟩
theorem qc_dninD {i : Nat} {x : Str} {p0 : Pos} {e : Expr} {ty : TE} {py : PX PV} (hu : X.A.units + 1 < cLine) (hi : QX rS K PO X e ty py) (ho : PE X (.Name x p0) (tVar i)) : QC K PO X .NotIn e (.Name x p0) (tDNotIn ty (tVar i)) (pDinD true i py) := ⟨pc_dnotin hu hi.pe ho, (sx_dinD hi.sd).2⟩
/-! ### d[k] = a new list -/
theorem putD_new {κ α : Type} [DecidableEq κ] {k : κ} {v : α} : ∀ {kvs : List (κ × α)}, k ∉ kvs.map (·.1) → putD kvs k v = kvs ++ [(k, v)]
  | [], _ => rfl
  | (k', u) :: r, h => by
    rw [List.map_cons, List.mem_cons] at h
    unfold putD
    rw [if_neg fun z => h (.inl z.symm), putD_new fun z => h (.inr z)]
    rfl
def pDputL (i : Nat) (pk : PX PV) (p : En → (Vl → En → Prop) → Prop) : PSt := fun P ρ => (∃ kvs, ρ[i]? = some (some (.oD kvs))) ∧ p ρ fun vl ρ' => ∃ kvs d, vl = .ol d ∧ ρ'[i]? = some (some (.oD kvs)) ∧ pk ρ' fun y => ∃ k, keyOf y = some k ∧ lookD kvs k = none ∧ (kvs.map (·.1)).Nodup ∧ kvs.length < 16777216 ∧ P.nx (ρ'.set i (some (.oD (kvs ++ [(k, d)]))))
theorem ss_dputL {i : Nat} {tk te : TE} {pk : PX PV} {p : En → (Vl → En → Prop) → Prop} (hk : SX rS K PO tk pk) (h : SM K PO te p) : SS K PO W (tAsg te (gSub (tVar i) tk rSetD)) (pDputL i pk p) := fun {B G0 G H pl σ ρ D P} r e hp => by
  obtain ⟨⟨kvs0, e0⟩, hp⟩ := hp
  obtain ⟨v, A, ev, e2, _⟩ := r.var e0
  obtain ⟨a, as0, rfl, _, h0, _⟩ := e2
  refine h r hp fun w wl ρ' G' H' pl' s le r' hp1 => ?_
  obtain ⟨kvs, d, rfl, ei, hp2⟩ := hp1
  refine ⟨.ref a, ev, hk r'.drop hp2 fun y dy G2 H2 pl2 s2 hdy hp3 => ?_⟩
  obtain ⟨k, hk', hn, hnd, hl, hp4⟩ := hp3
  obtain ⟨v', A', C, g1, g2, g3, nd, n, fin⟩ := (r'.step s2).mutT ei
  rw [ev] at g1
  cases g1
  obtain ⟨b, as, eb, rfl, k1, k2, k2', k3⟩ := g2
  cases eb
  obtain ⟨c, ys, rfl, rfl, q1, q2, q3⟩ := g3
  have nd' : a ∉ as ∧ as.Nodup ∧ c ∉ a :: as := by
    rw [List.nodup_append] at nd
    obtain ⟨n1, n2, n3⟩ := nd
    rw [List.nodup_cons] at n1
    exact ⟨n1.1, n1.2, fun z => n3 c z c (by simp) rfl⟩
  have hca : c ≠ a := fun z => nd'.2.2 (by simp [z])
  have hzk := zpd_keys kvs as k2
  have hzl : (zpD kvs as).length = kvs.length := by have := congrArg List.length hzk; rwa [List.length_map, List.length_map] at this
  have hput : putK (zpD kvs as) k (V.ref c) = zpD (kvs ++ [(k, d)]) (as ++ [c]) := by
    rw [put_eq _ _ _ (by rw [hzk]; exact hnd), putD_new (by rw [hzk]; exact ((zpd_look k kvs as k2).2 hn).2), zpd_app k d c kvs as k2]
  refine ⟨a, _, rfl, .inl ⟨_, k, k1, keyOf_ok (K := K) (pl := pl2) (G := G2) hdy hk', by rw [line_eq]; exact Nat.lt_of_le_of_lt (Nat.le_of_eq hzl) hl, rfl⟩, e.nx (s.trans s2.g) (le.trans s2.le) (fin (upd H2 a (.dK (putK (zpD kvs as) k (V.ref c)))) (.oD (kvs ++ [(k, d)])) (a :: (as ++ [c])) (fun b hb => upd_ne fun z => hb (by simp [z])) (fun b hb => ?_) ⟨a, as ++ [c], rfl, rfl, ?_, ?_, ?_, ?_⟩ ?_ ?_) hp4⟩
  · by_cases z : b = a
    · subst z; rw [upd_same]; simp
    · rw [upd_ne z]; exact (n b (List.mem_append_left _ hb)).2.2.2
  · rw [upd_same, hput]
  · rw [List.length_append, List.length_append, k2]; rfl
  · rw [List.length_append, List.length_singleton]; omega
  · intro j b kv e3 e4
    by_cases hj : j < as.length
    · rw [List.getElem?_append_left hj] at e3
      rw [List.getElem?_append_left (by omega)] at e4
      obtain ⟨xs', w1, w2⟩ := k3 j b kv e3 e4
      refine ⟨xs', ?_, w2⟩
      rw [upd_ne fun z => by subst z; exact nd'.1 (List.mem_of_getElem? e3)]
      exact w1
    · have hj2 : j = as.length := by
        have := (List.getElem?_eq_some_iff.mp e3).1
        rw [List.length_append, List.length_singleton] at this
        omega
      subst hj2
      rw [List.getElem?_append_right (Nat.le_refl _), Nat.sub_self] at e3
      rw [List.getElem?_append_right (by omega), k2, Nat.sub_self] at e4
      cases e3
      cases e4
      exact ⟨ys, by rw [upd_ne hca]; exact q1, q2, q3⟩
  · rw [List.nodup_cons, List.nodup_append]
    refine ⟨fun z => ?_, nd'.2.1, by simp, fun x hx y hy z => ?_⟩
    · rcases List.mem_append.mp z with z | z
      · exact nd'.1 z
      · exact hca (List.mem_singleton.mp z).symm
    · subst z
      rw [List.mem_singleton.mp hy] at hx
      exact nd'.2.2 (List.mem_cons_of_mem _ hx)
  · intro b hb
    rcases List.mem_cons.mp hb with rfl | hb
    · simp
    · rcases List.mem_append.mp hb with hb | hb
      · exact List.mem_append_left _ (List.mem_cons_of_mem _ hb)
      · exact List.mem_append_right _ hb
theorem qs_dputL {i : Nat} {x : Str} {ek e : Expr} {p0 spos pos : Pos} {tk te : TE} {pk : PX PV} {p : En → (Vl → En → Prop) → Prop} (hk : QX rS K PO X ek tk pk) (h : QM K PO X e te p) (hpe : PE X ek tk → PG X (.Subscript (.Name x p0) ek spos) (gSub (tVar i) tk rSetD))
    (hs : swapsWithSole [.Subscript (.Name x p0) ek spos] e pos.line X.env = pure false := by rfl) (hw : swappedStores [.Subscript (.Name x p0) ek spos] e X.env = pure none := by rfl)
    (h1 : (assignEach [.Subscript (.Name x p0) ek spos] X.env).map (·.2) = [assign (.Subscript (.Name x p0) ek spos) X.env] := by rfl) :
    QS K PO W X (.Assign [.Subscript (.Name x p0) ek spos] e pos) (tAsg te (gSub (tVar i) tk rSetD)) (pDputL i pk p) := ⟨ps_asg h.pe (hpe hk.pe) hs hw h1, ss_dputL hk.sd h.sd⟩
/-! ### x = d[k]; x.append(e) -/
theorem zpd_inj : ∀ {kvs : List (Key × List PV)} {as bs : List Addr}, as.length = kvs.length → bs.length = kvs.length → zpD kvs as = zpD kvs bs → as = bs
  | [], [], [], _, _, _ => rfl
  | kv :: kvs, a :: as, b :: bs, h1, h2, e => by
    unfold zpD at e
    rw [List.zipWith_cons_cons, List.zipWith_cons_cons] at e
    obtain ⟨e1, e2⟩ := List.cons.inj e
    rw [zpd_inj (by simpa using h1) (by simpa using h2) e2, V.ref.inj (Prod.mk.inj e1).2]
  | [], _ :: _, _, h, _, _ => by cases h
  | _ :: _, [], _, h, _, _ => by cases h
  | [], [], _ :: _, _, h, _ => by cases h
  | _ :: _, _ :: _, [], _, h, _ => by cases h
def pAlias (i m : Nat) (pk p : PX PV) : PSt := fun P ρ => (∃ kvs, ρ[i]? = some (some (.oD kvs))) ∧ m < ρ.length ∧ i ≠ m ∧ pk ρ fun y => ∃ kvs k ds, ρ[i]? = some (some (.oD kvs)) ∧ keyOf y = some k ∧ lookD kvs k = some ds ∧ p (ρ.set m none) fun d => ds.length < 16777216 ∧ P.nx ((ρ.set m none).set i (some (.oD (putD kvs k (ds ++ [d])))))
theorem ss_alias {i m : Nat} {tk te : TE} {pk p : PX PV} (hk : SX rS K PO tk pk) (h : SX rS K PO te p) : SS K PO W (tSeq (tAsg (tDGet (tVar i) tk) (gName m)) (tDrop (tBM K "list" rAppend (tVar m) (tCons te tNil)))) (pAlias i m pk p) := fun {B G0 G H pl σ ρ D P} r e hp => by
  obtain ⟨⟨kvs, ei⟩, hm, him, hp⟩ := hp
  obtain ⟨v, A, ev, e2, _⟩ := r.var ei
  obtain ⟨a, as0, rfl, _, _⟩ := e2
  refine ⟨.ref a, ev, hk r hp fun y dy G1 H1 pl1 s1 hdy hp1 => ?_⟩
  obtain ⟨kvs', k, ds, ei', hk', hl, hp2⟩ := hp1
  rw [ei] at ei'
  cases ei'
  have r1 := r.step s1
  obtain ⟨v', A', g1, g2, nd, n, _⟩ := r1.mut ei
  rw [ev] at g1
  cases g1
  obtain ⟨a1, as, ea1, rfl, k1, k2, k2', k3⟩ := g2
  cases ea1
  obtain ⟨j, b, hj, hb, hv, hput⟩ := (zpd_look k kvs as k2).1 ds hl
  obtain ⟨xs, w1, w2, w3⟩ := k3 j b (k, ds) hb hj
  refine ⟨_, .ref b, rfl, .inl ⟨_, k, .inl k1, keyOf_ok (K := K) (pl := pl1) (G := G1) hdy hk', hv.symm⟩, ?_⟩
  have r2 := (r1.pushS (d := .obj b) (v := .ref b) Rs.obj).set (i := m)
  have r3 := r2.forget m
  rw [List.set_set] at r3
  have hml : m < σ.length := by rw [r.len]; exact hm
  refine ⟨.ref b, List.getElem?_set_self hml, .inl ⟨rfl, _, SqL.of w1⟩, ?_⟩
  refine h r3 hp2 fun w d G2 H2 pl2 s2 hd hp3 => ?_
  obtain ⟨hll, hp3⟩ := hp3
  have r4 := r3.step s2
  have ei2 : (ρ.set m none)[i]? = some (some (.oD kvs)) := by rw [List.getElem?_set_ne (Ne.symm him)]; exact ei
  obtain ⟨v2, A2, g1, g2, nd2, n2, fin⟩ := r4.mut ei2
  rw [List.getElem?_set_ne (Ne.symm him), ev] at g1
  cases g1
  obtain ⟨c, bs, ec, rfl, k1', k2a, k2b, k3'⟩ := g2
  cases ec
  have eas : bs = as := by
    have q := s2.h a _ k1 (s2.off (by rw [k1]; simp) (n a (by simp)).2.2.1)
    rw [k1'] at q
    exact zpd_inj k2a k2 (HO.dK.inj (Option.some.inj q))
  subst eas
  obtain ⟨xs2, w1', w2', w3'⟩ := k3' j b (k, ds) hb hj
  have hbm : b ∈ bs := List.mem_of_getElem? hb
  rw [hput] at hp3
  refine ⟨b, xs2, w, rfl, rfl, w1', by rw [w2'.len, line_eq]; exact hll, e.nx (s1.g.trans s2.g) (s1.le.trans s2.le) (fin (upd H2 b (.lst (xs2 ++ [w]))) (.oD (kvs.set j (k, ds ++ [d]))) (a :: bs) (fun c hc => upd_ne fun z => hc (by rw [z]; exact List.mem_cons_of_mem _ hbm)) (fun c hc => ?_)
    (RV.oDIn hj hb nd2 k1' k2a k2b k3' (w2'.snoc hd) (by rw [List.length_append, List.length_singleton]; omega)) nd2 (fun c hc => hc)) hp3⟩
  by_cases z : c = b
  · rw [z, upd_same]; simp
  · rw [upd_ne z]; exact (n2 c hc).2.2.2
theorem qb_alias {i m : Nat} {y : Str} {o e ek ed : Expr} {apos cpos pos pos1 pos2 dpos : Pos} {rest : List Stmt} {tk te : TE} {pk p : PX PV} {u : TS} {q : PSt} (hK : X.K = K) (hN : X.N.Nodup) (hi : X.N[m]? = some y) (hx : Loc X.env.scope y) (hu : X.A.units + 1 < cLine)
    (hd : PE X ed (tVar i)) (hk : QX rS K PO X ek tk pk) (hsl : NoSl ek) (ho : PE X o (tVar m)) (h : QX rS K PO X e te p) (hr : QB K PO W X rest u q)
    (hpe : PE X o (tVar m) → PE X e te → PE X (.Call (.Attribute o "append" apos) [e] [] cpos) (tBM X.K "list" rAppend (tVar m) (tCons te tNil)))
    (hs1 : swapsWith (.Subscript ed ek dpos) (some (.Name y pos1)) pos2.line X.env = pure false := by rfl) (hs : swapsWith (.Call (.Attribute o "append" apos) [e] [] cpos) none pos.line X.env = pure false := by rfl)
    (hf : X.fn y = true ∨ X.env.scope.names.lookup y = some .local := by first | exact .inl rfl | exact .inr rfl | assumption) :
    QB K PO W X (.Assign [.Name y pos1] (.Subscript ed ek dpos) pos2 :: .Expr (.Call (.Attribute o "append" apos) [e] [] cpos) pos :: rest) (tSeq (tAsg (tDGet (tVar i) tk) (gName m)) (tSeq (tDrop (tBM K "list" rAppend (tVar m) (tCons te tNil))) u)) (pSeq (pAlias i m pk p) q) := by
  subst hK
  refine ⟨pss_cons (ps_set hN hi hx (pe_dget hu hd hk.pe hsl) hs1 hf) (pss_cons (ps_expr (hpe ho h.pe) hs) hr.pe), ?_⟩
  exact fun {B G0 G H pl σ ρ D P} r e hp => (ss_seq (ss_alias hk.sd h.sd) hr.sd) r e hp
/-! ### the walk -/
variable {ρ : En} {kvs : List (Key × List PV)} {ds : List PV} {d y : PV} {k : Key} {i m : Nat} {P : PEnds} {pk p : PX PV}
theorem u_dnewD {post : Vl → Prop} (h : post (.oD [])) : pDnewD ρ post := h
def dinDQ (n : Bool) (i : Nat) (ρ : En) (post : PV → Prop) (y : PV) : Prop := ∃ kvs k, ρ[i]? = some (some (.oD kvs)) ∧ keyOf y = some k ∧ post (.bl (if n then !(lookD kvs k).isSome else (lookD kvs k).isSome))
theorem u_dinD {n : Bool} {post : PV → Prop} (h : pk ρ fun y => dinDQ n i ρ post y) : pDinD n i pk ρ post := h
theorem u_dinDQ {n : Bool} {post : PV → Prop} (h1 : ρ[i]? = some (some (.oD kvs))) (h2 : keyOf y = some k) (h : post (.bl (if n then !(lookD kvs k).isSome else (lookD kvs k).isSome))) : dinDQ n i ρ post y := ⟨kvs, k, h1, h2, h⟩
def dputLQ (i : Nat) (pk : PX PV) (P : PEnds) (vl : Vl) (ρ : En) : Prop := ∃ kvs d, vl = .ol d ∧ ρ[i]? = some (some (.oD kvs)) ∧ pk ρ fun y => ∃ k, keyOf y = some k ∧ lookD kvs k = none ∧ (kvs.map (·.1)).Nodup ∧ kvs.length < 16777216 ∧ P.nx (ρ.set i (some (.oD (kvs ++ [(k, d)]))))
def dputLK (i : Nat) (kvs : List (Key × List PV)) (ds : List PV) (ρ : En) (P : PEnds) (y : PV) : Prop := ∃ k, keyOf y = some k ∧ lookD kvs k = none ∧ (kvs.map (·.1)).Nodup ∧ kvs.length < 16777216 ∧ P.nx (ρ.set i (some (.oD (kvs ++ [(k, ds)]))))
theorem u_dputL {q : En → (Vl → En → Prop) → Prop} (h1 : ρ[i]? = some (some (.oD kvs))) (h : q ρ fun vl ρ' => dputLQ i pk P vl ρ') : pDputL i pk q P ρ := ⟨⟨kvs, h1⟩, h⟩
theorem u_dputLQ (h1 : ρ[i]? = some (some (.oD kvs))) (h : pk ρ fun y => dputLK i kvs ds ρ P y) : dputLQ i pk P (.ol ds) ρ := ⟨kvs, ds, rfl, h1, h⟩
theorem u_dputLK (h1 : keyOf y = some k) (h2 : lookD kvs k = none) (h3 : (kvs.map (·.1)).Nodup) (h4 : kvs.length < 16777216) (h : P.nx (ρ.set i (some (.oD (kvs ++ [(k, ds)]))))) : dputLK i kvs ds ρ P y := ⟨k, h1, h2, h3, h4, h⟩
def aliasK (i m : Nat) (kvs : List (Key × List PV)) (p : PX PV) (ρ : En) (P : PEnds) (y : PV) : Prop := ∃ k ds, keyOf y = some k ∧ lookD kvs k = some ds ∧ p (ρ.set m none) fun d => ds.length < 16777216 ∧ P.nx ((ρ.set m none).set i (some (.oD (putD kvs k (ds ++ [d])))))
theorem u_alias (h1 : ρ[i]? = some (some (.oD kvs))) (h2 : m < ρ.length) (h3 : i ≠ m) (h : pk ρ fun y => aliasK i m kvs p ρ P y) : pAlias i m pk p P ρ := by
  refine ⟨⟨kvs, h1⟩, h2, h3, ?_⟩
  have e : (fun y => aliasK i m kvs p ρ P y) = fun y => ∃ kvs k ds, ρ[i]? = some (some (.oD kvs)) ∧ keyOf y = some k ∧ lookD kvs k = some ds ∧ p (ρ.set m none) fun d => ds.length < 16777216 ∧ P.nx ((ρ.set m none).set i (some (.oD (putD kvs k (ds ++ [d]))))) := by
    funext y
    refine propext ⟨fun ⟨k, ds, a, b, c⟩ => ⟨kvs, k, ds, h1, a, b, c⟩, fun ⟨kvs', k, ds, a0, a, b, c⟩ => ?_⟩
    rw [h1] at a0
    cases a0
    exact ⟨k, ds, a, b, c⟩
  rw [e] at h
  exact h
def aliasQ (i m : Nat) (kvs : List (Key × List PV)) (k : Key) (ds : List PV) (ρ : En) (P : PEnds) (d : PV) : Prop := ds.length < 16777216 ∧ P.nx ((ρ.set m none).set i (some (.oD (putD kvs k (ds ++ [d])))))
theorem u_aliasK (h1 : keyOf y = some k) (h2 : lookD kvs k = some ds) (h : p (ρ.set m none) fun d => aliasQ i m kvs k ds ρ P d) : aliasK i m kvs p ρ P y := ⟨k, ds, h1, h2, h⟩
theorem u_aliasQ (h1 : ds.length < 16777216) (h : P.nx ((ρ.set m none).set i (some (.oD (putD kvs k (ds ++ [d])))))) : aliasQ i m kvs k ds ρ P d := ⟨h1, h⟩
end
/-! ## text.index(sign) of a sign that is there -/
section
variable {X : Cx}
theorem mt_index1 : MtR X "str.index" zFind1 := by
  intro pins s σ H x xs v us Q I rx rs h
  obtain ⟨l, c, rfl, rfl, hc, q⟩ := h
  obtain ⟨t, rfl⟩ := rx
  cases rs with
  | cons r1 rs =>
    cases rs
    obtain ⟨u, rfl⟩ := r1
    have hf := find_sign hc
    cases w : Builtin.Str.occurrences (S l) (S [c]) 0 (S l).length 1 with
    | nil =>
      exfalso
      unfold Txt.find at hf
      rw [w] at hf
      simp at hf
    | cons k rest =>
      unfold Txt.find at hf
      rw [w] at hf
      have hk : k = l.idxOf c := Int.ofNat.inj hf
      subst hk
      exact PySem.SC.index w ⟨.int _, H, I.tok _, ⟨_, rfl⟩, q⟩
end
/-! ## range(i, j, -1) -/
section
variable {K : PySem.W.Frag} {PO : POk} {X : Cx} {tg : Expr}
def rngC (lo c : Int) (n : Nat) : List PV := (List.range n).map fun (i : Nat) => .int (lo + (i : Nat) * c)
theorem rngC_len (lo c : Int) (n : Nat) : (rngC lo c n).length = n := by unfold rngC; rw [List.length_map, List.length_range]
theorem rngC_get {lo c : Int} {n i : Nat} {d : PV} (h : (rngC lo c n)[i]? = some d) : i < n ∧ d = .int (lo + (i : Nat) * c) := by
  unfold rngC at h
  rw [List.getElem?_map] at h
  obtain ⟨j, e1, e2⟩ := Option.map_eq_some_iff.mp h
  obtain ⟨h1, h2⟩ := List.getElem?_eq_some_iff.mp e1
  rw [List.length_range] at h1
  rw [List.getElem_range] at h2
  subst h2
  exact ⟨h1, e2.symm⟩
theorem iter_rngC {L : Hp → Hp → PL → Prop} {lo c : Int} {n : Nat} : IterOk K PO L (Itc lo c n) (rngC lo c n) := iter_plain fun i G2 H2 pl2 o2 l2 => by
  refine ⟨fun e => ?_, fun d e => ?_⟩
  · show n ≤ i
    rw [rngC_len] at e
    omega
  · obtain ⟨h1, rfl⟩ := rngC_get e
    exact ⟨h1, fun y H' q => by obtain ⟨rfl, rfl⟩ := q; exact ⟨rfl, Rs.int⟩⟩
def r3Q (ds : List PV) (post : List PV → Prop) : Prop := ∃ i j : Int, ds = [.int i, .int j, .int (-1)] ∧ (-1000000000 ≤ i ∧ i ≤ 1000000000 ∧ -1000000000 ≤ j ∧ j ≤ 1000000000 ∧ i - j ≤ 16777216) ∧ post (rngC i (-1) (i - j).toNat)
def pSrcR3 (p : PX (List PV)) : PX (List PV) := fun ρ post => p ρ fun ds => r3Q ds post
theorem qi_r3 {a b c : Expr} {ta : TA} {p : PX (List PV)} {p0 pos : Pos} (hg : Gl X "range") (hm : X.mg "range" = none) (h : QA K PO X [a, b, c] ta p) (hs : starEach [a, b, c] X.env = (false, eval a X.env) :: starEach [b, c] X.env := by rfl) (hpl : (backTo pos (starEach [b, c] X.env)).any (·.1) = false := by rfl) :
    QI K PO X tg (.Call (.Name "range" p0) [a, b, c] [] pos) (iRng3 ta) (pSrcR3 p) := by
  refine ⟨pi_range3 hg hm h.pe hs hpl, fun {B G0 G H pl σ ρ R post} r hp hq => h.sd r hp fun vs ds G1 H1 pl1 s1 hd hp1 => ?_⟩
  obtain ⟨i, j, rfl, h1, hp1⟩ := hp1
  obtain ⟨x, r, rfl, k1, k2⟩ := rl_cons hd
  obtain ⟨y, r, rfl, k3, k4⟩ := rl_cons k2
  obtain ⟨z, r, rfl, k5, k6⟩ := rl_cons k4
  rw [rs_int k1, rs_int k3, rs_int k5, rl_nil k6]
  exact ⟨i, j, -1, _, rfl, RgC.neg (by omega) (by omega) (by omega) (by omega), hq _ _ G1 H1 pl1 s1 iter_rngC (by rw [rngC_len]; omega) hp1⟩
theorem u_srcR3 {p : PX (List PV)} {ρ : En} {post : List PV → Prop} (h : p ρ fun ds => r3Q ds post) : pSrcR3 p ρ post := h
theorem u_r3 {i j : Int} {post : List PV → Prop} (h0 : -1000000000 ≤ i ∧ i ≤ 1000000000 ∧ -1000000000 ≤ j ∧ j ≤ 1000000000 ∧ i - j ≤ 16777216) (h : post (rngC i (-1) (i - j).toNat)) : r3Q [.int i, .int j, .int (-1)] post := ⟨i, j, rfl, h0, h⟩
theorem u_forD {lo : Int} {n k : Nat} {q : PV → En → (En → Prop) → Prop} {p : PSt} {P : PEnds} {ρ : En} (I : Nat → En → Prop) (hk : k = n) (h0 : I 0 ρ) (hs : ∀ i ρ1, i < n → I i ρ1 → q (.int (lo - (i : Nat))) ρ1 fun ρ2 => p { P with nx := I (i + 1), ct := I (i + 1), bk := P.nx } ρ2) (hd : ∀ ρ1, I n ρ1 → P.nx ρ1) : forQ q p P ρ (rngC lo (-1) k) := by
  subst hk
  refine ⟨I, h0, fun i d ρ1 hd' hI => ?_, fun ρ1 hI => hd ρ1 (by rwa [rngC_len] at hI)⟩
  obtain ⟨h1, rfl⟩ := rngC_get hd'
  have e : lo + ((i : Nat) : Int) * (-1) = lo - (i : Nat) := by omega
  rw [e]
  exact hs i ρ1 h1 hI
end
/-! ## a list of the caller's handed in FIRST, which the callee may change -/
section
variable {K : PySem.W.Frag} {PO : POk} {X : Cx} {W : WX} {B G0 G H G1 H1 : Hp} {pl : PL} {σ : L2.St} {ρ : En}
def hSpF (K : PySem.W.Frag) (PO : POk) (sp : SpM) : Sp := fun vs H Q _ => ∃ (G : Hp) (pl : PL) (ds es : List PV) (a : Addr) (us xs : List V) (post : PV → List PV → Prop), vs = .ref a :: us ∧ Ok PO G H pl ∧ Rl K pl G ds us ∧ H a = some (.lst xs) ∧ G a = none ∧ a ∉ pads pl ∧ Rl K pl G es xs ∧ es.length ≤ 16777216 ∧ sp ds es post ∧
  ∀ d es' v G' H', post d es' → Same G G' → Rel K PO (del H a) G G' H' pl [some v] [some (.«at» d a es')] → Q v H'
abbrev CalF (P : Program) (w : World) (K : PySem.W.Frag) (PO : POk) (mg : Str → Option Value) (base : Heap) (k : Nat) (x : Str) (sp : SpM) : Prop := Cal P w K mg base k x (hSpF K PO sp)
def SAF (K : PySem.W.Frag) (PO : POk) (i : Nat) (t : TA) (p : PX (List PV)) : Prop :=
  ∀ {B G0 G H : Hp} {pl : PL} {σ : L2.St} {ρ : En} {Q : List V → Hp → Prop} {post : List PV → Prop}, Rel K PO B G0 G H pl σ ρ → p ρ post → (∀ us v ds G' H' pl', Stp PO G H pl G' H' pl' → Rl K pl' G' ds us → σ[i]? = some (some v) → post ds → Q (v :: us) H') → t σ H Q
structure QAF (K : PySem.W.Frag) (PO : POk) (X : Cx) (i : Nat) (e : List Expr) (t : TA) (p : PX (List PV)) : Prop where
  pe : PA X e t
  sd : SAF K PO i t p
def pFirst (i : Nat) (p : PX (List PV)) : PX (List PV) := fun ρ post => (∃ vl, ρ[i]? = some (some vl)) ∧ p ρ post
theorem qaf_first (i : Nat) {x : Str} {pos : Pos} {es : List Expr} {t : TA} {p : PX (List PV)} (hr : QA K PO X es t p) (hN : X.N[i]? = some x := by rfl) (hv : Vis X.env.scope x := by first | exact Or.inl rfl | exact Or.inr (Or.inl rfl) | exact Or.inr (Or.inr rfl)) (hd : (x == ("__debug__" : Str)) = false := by decide) (hcd : (x == ("__classdict__" : Str)) = false := by decide)
    (hs : starEach (.Name x pos :: es) X.env = (false, eval (.Name x pos) X.env) :: starEach es X.env := by rfl) : QAF K PO X i (.Name x pos :: es) (tCons (tVar i) t) (pFirst i p) := by
  refine ⟨pa_cons (pv i hN hv hd hcd) hr.pe hs, fun {B G0 G H pl σ ρ Q post} r hp hq => ?_⟩
  obtain ⟨⟨vl, e⟩, hp⟩ := hp
  obtain ⟨v, A, e1, _⟩ := r.var e
  exact ⟨v, e1, hr.sd r hp fun us ds G1 H1 pl1 s1 hds hp1 => hq us v ds G1 H1 pl1 s1 hds e1 hp1⟩
def pCallF (i : Nat) (sp : SpM) (p : PX (List PV)) : En → (Vl → En → Prop) → Prop := fun ρ post => p ρ fun ds => ∃ es, ρ[i]? = some (some (.ol es)) ∧ sp ds es fun d es' => post (.sh d) (ρ.set i (some (.ol es')))
theorem sm_callF {i : Nat} {sp : SpM} {t : TA} {p : PX (List PV)} (h : SAF K PO i t p) : SM K PO (tCall (hSpF K PO sp) [] E0 t) (pCallF i sp p) := fun {B G0 G H pl σ ρ Q post} r hp hq => by
  refine h r hp fun us v ds G1 H1 pl1 s1 hds ev hp1 => ?_
  obtain ⟨es, e, hp1⟩ := hp1
  have r1 := r.step s1
  obtain ⟨v', A, ev', hR, _, n⟩ := r1.var e
  rw [ev] at ev'
  cases ev'
  obtain ⟨a, xs, rfl, rfl, k1, k2, k3⟩ := hR
  obtain ⟨n1, n2, n3, n4⟩ := n a (by simp)
  show hSpF K PO sp ((.ref a :: us) ++ []) H1 Q E0
  rw [List.append_nil]
  exact ⟨G1, pl1, ds, es, a, us, xs, _, rfl, s1.ok, hds, k1, n1, n3, k2, k3, hp1, fun d es' v G2 H2 hpost s2 r2 => hq v (.sh d) _ G2 H2 pl1 (s1.g.trans s2) s1.le (r1.behindM e ev s2 r2) hpost⟩
theorem qm_cF {i k j : Nat} {x : Str} {sp : SpM} {p0 pos : Pos} {e : Expr} {es : List Expr} {t : TA} {p : PX (List PV)} (hK : X.K = K) (c : CalF X.prog X.w X.K PO X.mg X.base k x sp) (hr : Room j X.A) (hk : k ≤ j) (hg : Gl X x) (ha : QAF K PO X i (e :: es) t p)
    (hdb : (x == ("__debug__" : Str)) = false := by decide) (he : starEach (e :: es) X.env = (false, eval e X.env) :: starEach es X.env := by rfl) (hpl : (backTo pos (starEach es X.env)).any (·.1) = false := by rfl) :
    QM K PO X (.Call (.Name x p0) (e :: es) [] pos) (tCall (hSpF K PO sp) [] E0 t) (pCallF i sp p) := by
  subst hK
  exact ⟨pe_c c hr hk hg ha.pe hdb he hpl, sm_callF ha.sd⟩
def startF (n : Nat) (ds : List PV) (a : Addr) (es : List PV) : En := some (.«at» (.obj a) a es) :: (ds.map (fun d => some (.sh d)) ++ List.replicate (n - ds.length - 1) none)
theorem rel_startF {N : List Str} {vs xs : List V} {ds es : List PV} {a : Addr} (o : Ok PO G H pl) (h : Rl K pl G ds vs) (h1 : H a = some (.lst xs)) (h2 : G a = none) (h3 : a ∉ pads pl) (h4 : Rl K pl G es xs) (h5 : es.length ≤ 16777216) : Rel K PO (del H a) G G H pl (start N (.ref a :: vs)) (startF N.length ds a es) := by
  have hl := h.len
  have dn : ∀ b, del H a b ≠ none → b ≠ a := fun b hb z => hb (by rw [z]; exact del_same)
  refine ⟨o, fun _ _ => rfl, fun b hb => by rw [del_ne (dn b hb)] at hb; exact hb, fun b ob e _ => by rw [del_ne (dn b (by rw [e]; simp))] at e; exact e, ?_, ⟨fun i => if i = 0 then [a] else [], fun i vl e => ?_, fun i => ?_, fun i j b q1 q2 => ?_, fun i b q => ?_⟩⟩
  · unfold L2.start startF
    simp only [List.length_append, List.length_map, List.length_replicate, List.length_cons, List.length_nil, hl]
    omega
  · unfold startF at e
    unfold L2.start
    match i, e with
    | 0, e =>
      cases e
      exact ⟨.ref a, rfl, xs, rfl, Rs.obj, h1, h4, h5⟩
    | i + 1, e =>
      rw [List.getElem?_cons_succ] at e
      by_cases hi : i < ds.length
      · rw [List.getElem?_append_left (by rw [List.length_map]; exact hi), List.getElem?_map, List.getElem?_eq_getElem hi] at e
        obtain ⟨x, h1, h2⟩ := h.get (List.getElem?_eq_getElem hi)
        cases e
        refine ⟨x, ?_, ?_⟩
        · rw [List.map_cons, List.cons_append, List.getElem?_cons_succ, List.getElem?_append_left (by rw [List.length_map]; omega), List.getElem?_map, h1]
          rfl
        · show RV K pl G H _ _ (if i + 1 = 0 then [a] else [])
          rw [if_neg (by omega)]
          exact ⟨rfl, h2⟩
      · rw [List.getElem?_append_right (by rw [List.length_map]; omega), List.getElem?_replicate] at e
        split at e <;> cases e
  · try dsimp only
    split <;> simp
  · try dsimp only at q1 q2
    split at q1
    · split at q2
      · omega
      · cases q2
    · cases q1
  · try dsimp only at q
    split at q
    · rw [List.mem_singleton.mp q]
      exact ⟨h2, del_same, h3, by rw [h1]; simp⟩
    · cases q
end
theorem At.calF {P : Program} {w : World} {K : PySem.W.Frag} {PO : POk} {mg : Str → Option Value} {base : Heap} {x : Str} {st : Stmt} {N ps : List Str} {k : Nat} {sp : SpM} (m : Nat) (F : At K mg x st) (S : FnScope N ps (defScope st)) (len : ∀ ds es post, sp ds es post → ds.length = m) (hm : ps.length = m + 1)
    (hb : ∀ (kV doc pm : Value) (an : Option Addr) (cdv ct : Value) (us : List Value), us.length = ps.length → bindArgs (PySem.W.fnOf x x (defArgs st) (defBody st) (defScope st) .none kV doc pm an cdv ct) ⟨us, []⟩ = pure (ps.zip us))
    (hbody : ∀ (f : Addr) (cdv : Value) (A : Around) (outer : List Env) (s : Shared) (H : Hp) (E : XK) (a : Addr), Room k (A.deeper (envOfC x (defScope st) s.heap.objs.size f cdv)) →
      ∃ t p, QB K PO (fun _ _ _ _ => False) (cxOf CX0 P w K mg base N x (defScope st) f cdv A outer s H E).nox (defBody st) t p ∧ ∀ ds es post, sp ds es post → p { nx := fun ρ => ∃ es', ρ[0]? = some (some (.«at» (.obj a) a es')) ∧ post .non es', rt := fun vl => ∃ d es', vl = .«at» d a es' ∧ post d es', bk := fun _ => False, ct := fun _ => False } (startF N.length ds a es)) : CalF P w K PO mg base (k + 1) x sp := by
  refine F.cal S (fun vs H Q E h => ?_) hb (fun f cdv A outer s H vs Q E hr h => ?_)
  · obtain ⟨G, pl, ds, es, a, us, xs, post, rfl, _, hl, _, _, _, _, _, hs, _⟩ := h
    rw [List.length_cons, hl.len, len ds es post hs, hm]
  · obtain ⟨G, pl, ds, es, a, us, xs, post, rfl, o, hl, k1, k2, k3, k4, k5, hs, hq⟩ := h
    obtain ⟨t, p, q, hp⟩ := hbody f cdv A outer s H E a hr
    refine ⟨t, q.pe, ?_⟩
    refine q.sd (P := { nx := fun ρ => ∃ es', ρ[0]? = some (some (.«at» (.obj a) a es')) ∧ post .non es', rt := fun vl => ∃ d es', vl = .«at» d a es' ∧ post d es', bk := fun _ => False, ct := fun _ => False }) (rel_startF o hl k1 k2 k3 k4 k5) ⟨fun {G' H' pl' σ' ρ'} b c r hpost => ?_, fun _ _ _ h => h.elim, fun _ _ _ h => h.elim, fun {G' H' pl' v vl} b c r hpost => ?_, ?_⟩ (hp ds es post hs)
    · cases c
      obtain ⟨es', e, hpost⟩ := hpost
      exact hq .non es' .non G' H' hpost b ((r.pushS (d := .non) (v := .non) Rs.non).keepA e)
    · cases c
      obtain ⟨d, es', rfl, hpost⟩ := hpost
      exact hq d es' v G' H' hpost b r
    · exact fun _ _ _ _ _ h => h.elim
section
variable {K : PySem.W.Frag} {PO : POk} {X : Cx} {W : WX} {ρ : En} {P : PEnds} {i m : Nat} {a : Addr} {ds es : List PV} {d : PV}
def callFQ (i : Nat) (sp : SpM) (ds : List PV) (ρ : En) (post : Vl → En → Prop) : Prop := ∃ es, ρ[i]? = some (some (.ol es)) ∧ sp ds es fun d es' => post (.sh d) (ρ.set i (some (.ol es')))
theorem u_callF {sp : SpM} {p : PX (List PV)} {post : Vl → En → Prop} (h : p ρ fun ds => callFQ i sp ds ρ post) : pCallF i sp p ρ post := h
theorem u_callFQ {sp : SpM} {post : Vl → En → Prop} (h1 : ρ[i]? = some (some (.ol es))) (h : sp ds es fun d es' => post (.sh d) (ρ.set i (some (.ol es')))) : callFQ i sp ds ρ post := ⟨es, h1, h⟩
theorem u_first {vl : Vl} {p : PX (List PV)} {post : List PV → Prop} (h1 : ρ[i]? = some (some vl)) (h : p ρ post) : pFirst i p ρ post := ⟨⟨vl, h1⟩, h⟩
end
/-! ## a lent list is lent on; a pool that is one list of ints -/
section
variable {K : PySem.W.Frag} {PO : POk} {X : Cx} {W : WX} {B G0 G H G1 H1 : Hp} {pl : PL} {σ : L2.St} {ρ : En}
theorem Rel.behindA {i : Nat} {v : V} {d : PV} {a : Addr} {es es' : List PV} {G2 H2 : Hp} (r : Rel K PO B G0 G1 H1 pl σ ρ) (e : ρ[i]? = some (some (.«at» (.obj a) a es))) (s : Same G1 G2) (r2 : Rel K PO (del H1 a) G1 G2 H2 pl [some v] [some (.«at» d a es')]) : Rel K PO B G0 G2 H2 pl (σ ++ [some v]) (ρ.set i (some (.«at» (.obj a) a es')) ++ [some (.sh d)]) := by
  have hl := r.len
  have hi := (List.getElem?_eq_some_iff.mp e).1
  obtain ⟨fp, f1, f2, f3, f4⟩ := r.ex2
  obtain ⟨v0, e1, e2⟩ := f1 i _ e
  obtain ⟨xs, eA, k0, k1, k2, k3⟩ := e2
  have hai : a ∈ fp i := by rw [eA]; simp
  obtain ⟨qa1, qa2, qa3, qa4⟩ := f4 i a hai
  obtain ⟨gp, g1, g2, g3, g4⟩ := r2.ex
  obtain ⟨v1, e3, xs2, eA2, m1, m2, m3, m4⟩ := g1 0 _ rfl
  cases e3
  obtain ⟨w1, w2, w3, w4⟩ := g4 0 a (by rw [eA2]; simp)
  have nea : ∀ b, b ≠ a → del H1 a b = H1 b := fun b h => del_ne h
  have keepH : ∀ b o, H1 b = some o → b ≠ a → b ∉ pads pl → H2 b = some o := fun b o h1 h2 h3 => r2.fr b o (by rw [nea b h2]; exact h1) h3
  have keepG : ∀ b, Oth H1 b → b ≠ a → G2 b = G1 b := fun b h1 h2 => r2.gb b (h1.to fun o e => by rw [nea b h2]; exact e)
  have ba : ∀ b, B b ≠ none → b ≠ a := fun b h z => h (by rw [z]; exact qa2)
  have gbG : ∀ b, Oth B b → G2 b = G0 b := fun b hb => by
    by_cases hp : b ∈ pads pl
    · have e1 := r2.ok.free b hp
      have e2 := r.ok.free b hp
      rw [e1, ← e2]
      exact r.gb b hb
    · exact (keepG b (hb.to fun o e => r.fr b o e hp) (ba b hb.1)).trans (r.gb b hb)
  refine ⟨r2.ok, gbG, fun b hb => r2.on b (by rw [nea b (ba b hb)]; exact r.on b hb), fun b o eb hb => keepH b o (r.fr b o eb hb) (ba b (by rw [eb]; simp)) hb, by rw [List.length_append, List.length_append, List.length_set, hl]; rfl, ?_⟩
  refine ⟨fun j => if j = ρ.length then [] else fp j, fun j vl q => ?_, fun j => ?_, fun j k b h1 h2 => ?_, fun j b h1 => ?_⟩
  · try dsimp only
    rcases get_app_some q with ⟨hj, q0⟩ | ⟨hj, q0⟩
    · rw [List.length_set] at hj
      rw [if_neg (by omega)]
      rcases get_set_some q0 with ⟨rfl, _, q1⟩ | ⟨hne, q1⟩
      · cases q1
        exact ⟨v0, by rw [List.getElem?_append_left (by omega)]; exact e1, xs2, eA, by rw [rs_obj k0]; exact Rs.obj, m2, m3, m4⟩
      · obtain ⟨vj, p1, p2⟩ := f1 j vl q1
        refine ⟨vj, by rw [List.getElem?_append_left (by omega)]; exact p1, p2.mono s (plLe.refl _) fun b hb o eo => ?_⟩
        exact keepH b o eo (fun z => hne (f3 _ _ a hai (by rw [← z]; exact hb))) (f4 j b hb).2.2.1
    · rw [List.length_set] at hj
      subst hj
      cases q0
      rw [if_pos rfl]
      exact ⟨v, by rw [List.getElem?_append_right (by omega), hl, Nat.sub_self]; rfl, rfl, m1⟩
  · try dsimp only
    split
    · exact List.nodup_nil
    · exact f2 _
  · try dsimp only at h1 h2
    split at h1
    · cases h1
    · split at h2
      · cases h2
      · exact f3 _ _ b h1 h2
  · try dsimp only at h1
    split at h1
    · cases h1
    · obtain ⟨q1, q2, q3, q4⟩ := f4 j b h1
      by_cases z : b = a
      · subst z
        exact ⟨w1, q2, q3, w4⟩
      · refine ⟨(keepG b q4 z).trans q1, q2, q3, ?_⟩
        cases eo : H1 b with
        | none => exact absurd eo q4.1
        | some o => rw [keepH b o eo z q3]; simp
/-- the call, with a list that is itself lent -/
def pCallFA (i : Nat) (sp : SpM) (p : PX (List PV)) : En → (Vl → En → Prop) → Prop := fun ρ post => p ρ fun ds => ∃ a es, ρ[i]? = some (some (.«at» (.obj a) a es)) ∧ sp ds es fun d es' => post (.sh d) (ρ.set i (some (.«at» (.obj a) a es')))
theorem sm_callFA {i : Nat} {sp : SpM} {t : TA} {p : PX (List PV)} (h : SAF K PO i t p) : SM K PO (tCall (hSpF K PO sp) [] E0 t) (pCallFA i sp p) := fun {B G0 G H pl σ ρ Q post} r hp hq => by
  refine h r hp fun us v ds G1 H1 pl1 s1 hds ev hp1 => ?_
  obtain ⟨a, es, e, hp1⟩ := hp1
  have r1 := r.step s1
  obtain ⟨v', A, ev', hR, _, n⟩ := r1.var e
  rw [ev] at ev'
  cases ev'
  obtain ⟨xs, rfl, k0, k1, k2, k3⟩ := hR
  obtain ⟨n1, n2, n3, n4⟩ := n a (by simp)
  rw [rs_obj k0]
  show hSpF K PO sp ((.ref a :: us) ++ []) H1 Q E0
  rw [List.append_nil]
  exact ⟨G1, pl1, ds, es, a, us, xs, _, rfl, s1.ok, hds, k1, n1, n3, k2, k3, hp1, fun d es' v G2 H2 hpost s2 r2 => hq v (.sh d) _ G2 H2 pl1 (s1.g.trans s2) s1.le (r1.behindA e s2 r2) hpost⟩
theorem qm_cFA {i k j : Nat} {x : Str} {sp : SpM} {p0 pos : Pos} {e : Expr} {es : List Expr} {t : TA} {p : PX (List PV)} (hK : X.K = K) (c : CalF X.prog X.w X.K PO X.mg X.base k x sp) (hr : Room j X.A) (hk : k ≤ j) (hg : Gl X x) (ha : QAF K PO X i (e :: es) t p)
    (hdb : (x == ("__debug__" : Str)) = false := by decide) (he : starEach (e :: es) X.env = (false, eval e X.env) :: starEach es X.env := by rfl) (hpl : (backTo pos (starEach es X.env)).any (·.1) = false := by rfl) :
    QM K PO X (.Call (.Name x p0) (e :: es) [] pos) (tCall (hSpF K PO sp) [] E0 t) (pCallFA i sp p) := by
  subst hK
  exact ⟨pe_c c hr hk hg ha.pe hdb he hpl, sm_callFA ha.sd⟩
def callFAQ (i : Nat) (sp : SpM) (ds : List PV) (ρ : En) (post : Vl → En → Prop) : Prop := ∃ a es, ρ[i]? = some (some (.«at» (.obj a) a es)) ∧ sp ds es fun d es' => post (.sh d) (ρ.set i (some (.«at» (.obj a) a es')))
theorem u_callFA {sp : SpM} {p : PX (List PV)} {post : Vl → En → Prop} (h : p ρ fun ds => callFAQ i sp ds ρ post) : pCallFA i sp p ρ post := h
theorem u_callFAQ {sp : SpM} {a : Addr} {ds es : List PV} {post : Vl → En → Prop} (h1 : ρ[i]? = some (some (.«at» (.obj a) a es))) (h : sp ds es fun d es' => post (.sh d) (ρ.set i (some (.«at» (.obj a) a es')))) : callFAQ i sp ds ρ post := ⟨a, es, h1, h⟩
end
/-! ### the pool -/
def POG (n : Nat) : POk := ⟨fun v as H => ∃ (p : Addr) (xs : List Int), v = .ref p ∧ as = [p] ∧ H p = some (.lst (xs.map V.int)) ∧ xs.length = n,
  fun v as H H' ⟨p, xs, h1, h2, h3, h4⟩ h => ⟨p, xs, h1, h2, by rw [h p (by rw [h2]; simp)]; exact h3, h4⟩,
  fun v as H ⟨p, xs, h1, h2, h3, h4⟩ a ha => by
    rw [h2] at ha
    rw [List.mem_singleton.mp ha]; exact .lst h3⟩
def shapeG (n : Nat) (ds : List PV) : Prop := ∃ xs : List Int, ds = xs.map .int ∧ xs.length = n
theorem rl_intsG {K : PySem.W.Frag} {pl : PL} {G : Hp} : ∀ {xs : List Int} {us : List V}, Rl K pl G (xs.map .int) us → us = xs.map V.int
  | [], us, h => rl_nil h
  | x :: xs, us, h => by
    obtain ⟨y, r, rfl, h1, h2⟩ := rl_cons h
    rw [rs_int h1, rl_intsG h2]
    rfl
theorem ints_rl {K : PySem.W.Frag} {pl : PL} {G : Hp} (xs : List Int) : Rl K pl G (xs.map .int) (xs.map V.int) := Rl.map fun _ _ => Rs.int
theorem mk_POG (n : Nat) (K : PySem.W.Frag) (G H : Hp) (a : Addr) (xs : List V) (ds : List PV) (h : shapeG n ds) (h1 : H a = some (.lst xs)) (h2 : Rl K none G ds xs) (_ : Same G H) (_ : G a = none) : ∃ as, (POG n).ok (.ref a) as H := by
  obtain ⟨zs, rfl, hz⟩ := h
  rw [rl_intsG h2] at h1
  exact ⟨[a], a, zs, rfl, rfl, h1, hz⟩
theorem poolG {P : Program} {w : World} {K : PySem.W.Frag} {mg : Str → Option Value} {base : Heap} {n k : Nat} {x : Str} {spF : SpM} {sp : SpV} (c : CalF P w K noPool mg base k x spF) (hn : n ≤ 1000)
    (h : ∀ ds post, sp ds post → ∃ is : List Int, ds = .pool :: is.map .int ∧ ∀ xs : List Int, xs.length = n → spF (is.map .int) (xs.map .int) fun d es' => post (.sh d) ∧ (∃ i, d = .int i) ∧ ∃ xs' : List Int, es' = xs'.map .int ∧ xs'.length = n) : CalV P w K (POG n) mg base k x sp := by
  obtain ⟨f, fd, ps, F, hm, kp, b⟩ := c.ex
  refine ⟨f, fd, ps, F.imp ?_, hm, kp, b⟩
  rintro vs H Q E ⟨G, pl, ds, post, o, hl, hs, hq⟩
  obtain ⟨is, hds, hs2⟩ := h _ _ hs
  subst hds
  obtain ⟨v, us, rfl, h1, h2⟩ := rl_cons hl
  obtain ⟨as, rfl⟩ := rs_pool h1
  obtain ⟨⟨p, xs, rfl, rfl, hp, hxn⟩, fr⟩ := o.pok _ _ rfl
  rw [rl_intsG h2]
  refine ⟨G, none, is.map .int, xs.map .int, p, is.map V.int, xs.map V.int, _, rfl, ⟨o.sub, fun _ _ e => nomatch e⟩, ints_rl _, hp, fr p (by simp), by simp [pads], ints_rl _, by rw [List.length_map]; omega, hs2 xs hxn, ?_⟩
  rintro d es' v G' H' ⟨hpost, ⟨i, rfl⟩, xs', rfl, hn'⟩ sg r
  refine hq (.sh (.int i)) v G' H' hpost sg ?_
  obtain ⟨fp, f1, f2, f3, f4⟩ := r.ex
  obtain ⟨v1, e1, ys, eA, m1, m2, m3, m4⟩ := f1 0 _ rfl
  cases e1
  obtain ⟨q1, q2, q3, q4⟩ := f4 0 p (by rw [eA]; simp)
  rw [rl_intsG m3] at m2
  have dn : ∀ b, b ≠ p → del H p b = H b := fun b hb => del_ne hb
  refine ⟨⟨r.ok.sub, fun v' as e => ?_⟩, fun a ha => ?_, fun a ha => ?_, fun b ob e hb => ?_, rfl, ⟨fun _ => [], fun j vl e => ?_, fun _ => List.nodup_nil, (fun _ _ _ h => nomatch h), (fun _ _ h => nomatch h)⟩⟩
  · cases e
    exact ⟨⟨p, xs', rfl, rfl, m2, hn'⟩, fun a ha => by rw [List.mem_singleton.mp ha]; exact q1⟩
  · by_cases z : a = p
    · rw [z, q1, fr p (by simp)]
    · exact r.gb a (ha.to fun ob e => by rw [dn a z]; exact e)
  · by_cases z : a = p
    · rw [z, m2]; simp
    · exact r.on a (by rw [dn a z]; exact ha)
  · have z : b ≠ p := fun z => hb (by rw [z]; simp [pads])
    exact r.fr b ob (by rw [dn b z]; exact e) (by simp [pads])
  · match j, e with
    | 0, e => cases e; exact ⟨v, rfl, rfl, by rw [rs_int m1]; exact Rs.int⟩
    | j + 1, e => cases e
/-! ### draws -/
def sp_pourF : SpM := fun ds es post => ∃ (m : Int) (xs : List Int), ds = [.int m] ∧ es = xs.map .int ∧ (2 ≤ xs.length ∧ xs.length ≤ 1000) ∧ (0 < m ∧ m < 1073741824) ∧ ∀ (v : Nat) (xs' : List Int), (v : Int) < m → xs'.length = xs.length → post (.int (v : Nat)) (xs'.map .int)
def sp_biasF : SpM := fun ds es post => ∃ (k : Nat) (m : Int) (xs : List Int), ds = [.int (k : Nat), .int m] ∧ es = xs.map .int ∧ (k + 2 < xs.length ∧ xs.length ≤ 1000) ∧ (0 < m ∧ m < 1073741824) ∧ ∀ (v : Nat) (xs' : List Int), (v : Int) < m → xs'.length = xs.length → post (.int (v : Nat)) (xs'.map .int)
def sp_bias : SpV := fun ds post => ∃ (k : Nat) (m : Int), ds = [.pool, .int (k : Nat), .int m] ∧ k < 5 ∧ (0 < m ∧ m < 1073741824) ∧ ∀ v : Nat, (v : Int) < m → post (.sh (.int (v : Nat)))
theorem u_bias {k : Nat} {m : Int} {post : Vl → Prop} (hk : k < 5) (h : 0 < m ∧ m < 1073741824) (h2 : ∀ v : Nat, (v : Int) < m → post (.sh (.int (v : Nat)))) : sp_bias [.pool, .int (k : Nat), .int m] post := ⟨k, m, rfl, hk, h, h2⟩
def sp_law_pool4 : SpV := fun ds post => ∃ ns : List Int, ds = [.scr ns] ∧ ns.length ≤ 63 ∧ ∀ ds', shapeG 7 ds' → post (.ol ds')
section
variable {P : Program} {w : World} {K : PySem.W.Frag} {mg : Str → Option Value} {base : Heap}
theorem pour_of {x : Str} (c : CalF P w K noPool mg base 1 x sp_pourF) : CalV P w K (POG 7) mg base 1 x sp_draw := poolG c (by omega) fun ds post h => by
  obtain ⟨m, rfl, hm, q⟩ := h
  exact ⟨[m], rfl, fun xs hx => ⟨m, xs, rfl, rfl, by omega, hm, fun v xs' hv hx' => ⟨q v hv, ⟨_, rfl⟩, xs', rfl, by omega⟩⟩⟩
theorem bias_of {x : Str} (c : CalF P w K noPool mg base 2 x sp_biasF) : CalV P w K (POG 7) mg base 2 x sp_bias := poolG c (by omega) fun ds post h => by
  obtain ⟨k, m, rfl, hk, hm, q⟩ := h
  exact ⟨[(k : Int), m], rfl, fun xs hx => ⟨k, m, xs, rfl, rfl, by omega, hm, fun v xs' hv hx' => ⟨q v hv, ⟨_, rfl⟩, xs', rfl, by omega⟩⟩⟩
end
/-! ## upper of any plain signs; a list of signs beside [] -/
section
variable {K : PySem.W.Frag} {PO : POk} {X : Cx} {W : WX}
theorem upper_asc : ∀ c < 128, Unicode.upperOf c = [upC c] := by decide +kernel
def zUpA : V → List V → Hp → VK → Prop := fun x xs H Q => ∃ l : List Nat, x = vS l ∧ xs = [] ∧ l.length ≤ 100000 ∧ (∀ c ∈ l, c < 128) ∧ Q (vS (l.map upC)) H
theorem mt_upA : MtR X "str.upper" zUpA := by
  intro pins s σ H xs xs' v us Q I rx rs h
  obtain ⟨l, rfl, rfl, hz, hl, q⟩ := h
  refine mt_upper pins s σ H _ _ v us Q I rx rs ⟨S l, rfl, rfl, by rw [S_len]; omega, ?_⟩
  have e : Txt.upper (S l) = S (l.map upC) := by
    show Str.mk _ = _
    rw [← placed_map (f := fun _ c => Unicode.upperOf c) fun i c hc => upper_asc c (hl c (List.mem_of_getElem? hc))]
  rw [e]
  exact q
def fUpA : List Nat → (PV → Prop) → Prop := fun l post => l.length ≤ 100000 ∧ (∀ c ∈ l, c < 128) ∧ post (.str (l.map upC))
theorem sm_upA : SM0 K PO zUpA fUpA := fun {G H pl l Q post} o hl hf hq => by
  obtain ⟨h1, h2, hp⟩ := hf
  exact ⟨l, rfl, rfl, h1, h2, hq _ (.str _) G H pl (Stp.refl o) (Rs.str (by rw [List.length_map]; exact hl)) hp⟩
theorem u_upA {l : List Nat} {post : PV → Prop} (h1 : l.length ≤ 100000) (h2 : ∀ c ∈ l, c < 128) (h : post (.str (l.map upC))) : fUpA l post := ⟨h1, h2, h⟩
theorem upC_asc {c : Nat} (h : c < 128) : upC c < 128 := by unfold upC; split <;> omega
theorem u_neNil {xs : List Nat} {post : PV → Prop} (h : ∀ a ∈ xs, a < 1114112) (q : post (.bl (!xs.isEmpty))) : fEqD true (.lst (xs.map fun c => .str [c])) (.lst []) post := by
  have hd : Dn 1 (.lst (xs.map fun c => PV.str [c])) := dn_lst fun d hd => by
    obtain ⟨c, hc, rfl⟩ := List.mem_map.mp hd
    exact dn_str fun a ha => by rw [List.mem_singleton.mp ha]; exact h c hc
  refine u_eqD (dn_facts 1 _ hd).1 (by rfl) (dn_shaped hd (by decide)) (by rfl) ?_
  cases xs with
  | nil => exact q
  | cons x xs => exact q
end
/-! ## objects of own classes, with fields that are frozen values -/
def putA {α : Type} (f : Str) (v : α) : List (Str × α) → List (Str × α)
  | [] => [(f, v)]
  | (g, x) :: r => if g = f then (g, v) :: r else (g, x) :: putA f v r
section
variable {K : PySem.W.Frag} {PO : POk} {X : Cx} {W : WX} {B G0 G H G1 H1 : Hp} {pl pl1 : PL} {σ : L2.St} {ρ : En}
theorem Ra.nil : Ra K pl G [] [] := ⟨rfl, Rl.nil⟩
theorem Ra.mono {fs : List (Str × PV)} {xs : List (Str × V)} (h : Ra K pl G fs xs) (s : Same G G1) (p : plLe pl pl1) : Ra K pl1 G1 fs xs := ⟨h.1, Rl.mono s p _ _ h.2⟩
theorem ra_cons {f : Str} {d : PV} {fs : List (Str × PV)} {xs : List (Str × V)} (h : Ra K pl G ((f, d) :: fs) xs) : ∃ x r, xs = (f, x) :: r ∧ Rs K pl G d x ∧ Ra K pl G fs r := by
  obtain ⟨h1, h2⟩ := h
  cases xs with
  | nil => cases h1
  | cons y r =>
    obtain ⟨g, x⟩ := y
    obtain ⟨e1, e2⟩ := List.cons.inj h1
    cases e1
    obtain ⟨z, q, e, k1, k2⟩ := rl_cons h2
    obtain ⟨e3, e4⟩ := List.cons.inj e
    cases e3
    exact ⟨x, r, rfl, k1, e2, by rw [show r.map (·.2) = q from e4]; exact k2⟩
theorem Ra.cons {f : Str} {d : PV} {x : V} {fs : List (Str × PV)} {xs : List (Str × V)} (h1 : Rs K pl G d x) (h : Ra K pl G fs xs) : Ra K pl G ((f, d) :: fs) ((f, x) :: xs) := ⟨by rw [List.map_cons, List.map_cons, h.1], Rl.cons h1 h.2⟩
theorem Ra.look {f : Str} {d : PV} : ∀ {fs : List (Str × PV)} {xs : List (Str × V)}, Ra K pl G fs xs → fs.lookup f = some d → ∃ x, xs.lookup f = some x ∧ Rs K pl G d x
  | [], _, _, e => by cases e
  | (g, y) :: fs, xs, h, e => by
    obtain ⟨x, r, rfl, k1, k2⟩ := ra_cons h
    rw [List.lookup_cons] at e ⊢
    cases hb : f == g with
    | true => rw [hb] at e; cases e; exact ⟨x, rfl, k1⟩
    | false => rw [hb] at e; exact Ra.look k2 e
theorem Ra.none {f : Str} : ∀ {fs : List (Str × PV)} {xs : List (Str × V)}, Ra K pl G fs xs → fs.lookup f = none → xs.lookup f = none
  | [], xs, h, e => by
    cases xs with
    | nil => rfl
    | cons _ _ => cases h.1
  | (g, y) :: fs, xs, h, e => by
    obtain ⟨x, r, rfl, k1, k2⟩ := ra_cons h
    rw [List.lookup_cons] at e ⊢
    cases hb : f == g with
    | true => rw [hb] at e; cases e
    | false => rw [hb] at e; exact Ra.none k2 e
theorem Ra.len {fs : List (Str × PV)} {xs : List (Str × V)} (h : Ra K pl G fs xs) : xs.length = fs.length := by
  have := congrArg List.length h.1
  rwa [List.length_map, List.length_map] at this
theorem Ra.put {f : Str} {d : PV} {v : V} (hd : Rs K pl G d v) : ∀ {fs : List (Str × PV)} {xs : List (Str × V)}, Ra K pl G fs xs → Ra K pl G (putA f d fs) (putF f v xs)
  | [], xs, h => by
    cases xs with
    | nil => exact Ra.cons hd Ra.nil
    | cons _ _ => cases h.1
  | (g, y) :: fs, xs, h => by
    obtain ⟨x, r, rfl, k1, k2⟩ := ra_cons h
    unfold putA putF
    by_cases e : g = f
    · rw [if_pos e, if_pos e]; exact Ra.cons hd k2
    · rw [if_neg e, if_neg e]; exact Ra.cons k1 (Ra.put hd k2)
/-! ### o.f -/
def pFld (i : Nat) (C : Addr) (f : Str) : PX PV := fun ρ post => ∃ a dx fs y, ρ[i]? = some (some (.ob (.obj a) a dx C fs)) ∧ fs.lookup f = some y ∧ post y
theorem sx_fld {i : Nat} {C : Addr} {f : Str} (c : Cls K C) (n : NoAttr K C f) : SX rS K PO (tFld K (tVar i) f) (pFld i C f) := fun {B G0 G H pl σ ρ Q post} r hp hq => by
  obtain ⟨a, dx, fs, y, e, hl, hp⟩ := hp
  obtain ⟨v, A, ev, ⟨xs, rfl, h1, h2, h3, h4⟩, _⟩ := r.var e
  obtain ⟨x, hx, hr⟩ := h4.look hl
  exact ⟨v, ev, a, C, dx, xs, x, rs_obj h1, h2, c, n, hx, hq x y G H pl (Stp.refl r.ok) hr hp⟩
theorem qx_fld {i : Nat} {x f : Str} {p0 pos : Pos} {C : Addr} (hK : X.K = K) (c : Cls K C) (n : NoAttr K C f) (ho : PE X (.Name x p0) (tVar i)) (hb : attributeBase (.Name x p0) f X.env (eval (.Name x p0) X.env) = eval (.Name x p0) X.env := by rfl) : QX rS K PO X (.Attribute (.Name x p0) f pos) (tFld K (tVar i) f) (pFld i C f) := by
  subst hK
  exact ⟨pe_fld ho hb, sx_fld c n⟩
/-! ### o.f = e -/
def pSetF (i : Nat) (C : Addr) (f : Str) (p : PX PV) : PSt := fun P ρ => p ρ fun d => ∃ a dx fs, ρ[i]? = some (some (.ob (.obj a) a dx C fs)) ∧ fs.length < 1000 ∧ P.nx (ρ.set i (some (.ob (.obj a) a dx C (putA f d fs))))
theorem ss_setF {i : Nat} {C : Addr} {f : Str} {te : TE} {p : PX PV} (c : Cls K C) (n : NoAttr K C f) (h : SX rS K PO te p) : SS K PO W (sFld K (tVar i) te f) (pSetF i C f p) := fun {B G0 G H pl σ ρ D P} r e hp => h r hp fun w d G1 H1 pl1 s1 hd hp1 => by
  obtain ⟨a, dx, fs, ei, hl, hp1⟩ := hp1
  have r1 := r.step s1
  obtain ⟨v, A, ev, hA, nd, hn, fin⟩ := r1.mut ei
  obtain ⟨xs, rfl, h1, h2, h3, h4⟩ := hA
  have hne : dx ≠ a := fun z => by rw [z] at nd; simp at nd
  refine ⟨v, ev, a, C, dx, xs, rs_obj h1, h2, c, n, by rw [h4.len]; exact hl, e.nx (s1.g) (s1.le) (fin (upd H1 a (.ins C dx (putF f w xs))) (.ob (.obj a) a dx C (putA f d fs)) [a, dx] (fun b hb => upd_ne fun z => hb (by simp [z])) (fun b hb => ?_) ⟨_, rfl, h1, upd_same, by rw [upd_ne hne]; exact h3, h4.put hd⟩ nd (fun b hb => hb)) hp1⟩
  rcases List.mem_cons.mp hb with rfl | hb
  · rw [upd_same]; simp
  · rw [List.mem_singleton.mp hb, upd_ne hne, h3]; simp
theorem qs_setF {i : Nat} {x f : Str} {p0 pos pos' : Pos} {e : Expr} {C : Addr} {te : TE} {p : PX PV} (hK : X.K = K) (c : Cls K C) (n : NoAttr K C f) (ho : PE X (.Name x p0) (tVar i)) (h : QX rS K PO X e te p) (hs : swapsWith e (some (.Attribute (.Name x p0) f pos')) pos.line X.env = pure false := by rfl) :
    QS K PO W X (.Assign [.Attribute (.Name x p0) f pos'] e pos) (sFld K (tVar i) te f) (pSetF i C f p) := by
  subst hK
  exact ⟨ps_fld ho h.pe hs, ss_setF c n h.sd⟩
/-! ### contracts -/
abbrev SpO := List PV → List (Str × PV) → (PV → List (Str × PV) → Prop) → Prop
def hSpO (K : PySem.W.Frag) (PO : POk) (C : Addr) (sp : SpO) : Sp := fun vs H Q _ => ∃ (G : Hp) (pl : PL) (ds : List PV) (fs : List (Str × PV)) (a dx : Addr) (us : List V) (xs : List (Str × V)) (post : PV → List (Str × PV) → Prop), vs = .ref a :: us ∧ Ok PO G H pl ∧ Rl K pl G ds us ∧ H a = some (.ins C dx xs) ∧ H dx = some (.own a) ∧ dx ≠ a ∧ (G a = none ∧ G dx = none) ∧ (a ∉ pads pl ∧ dx ∉ pads pl) ∧ Ra K pl G fs xs ∧ sp ds fs post ∧
  ∀ d fs' v G' H', post d fs' → Same G G' → Rel K PO (del (del H a) dx) G G' H' pl [some v] [some (.ob d a dx C fs')] → Q v H'
abbrev CalO (P : Program) (w : World) (K : PySem.W.Frag) (PO : POk) (mg : Str → Option Value) (base : Heap) (k : Nat) (x : Str) (C : Addr) (sp : SpO) : Prop := Cal P w K mg base k x (hSpO K PO C sp)
structure CalMt (P : Program) (w : World) (K : PySem.W.Frag) (PO : POk) (mg : Str → Option Value) (base : Heap) (k : Nat) (C : Addr) (m : Str) (sp : SpO) : Prop where
  ex : ∃ (f : Addr) (fd : FuncData) (ps : List Str), Meth K C m f ∧ FnOk P w K mg base CX0 k f fd ps (hSpO K PO C sp) ∧ Binds K fd ps []
structure CalMk (P : Program) (w : World) (K : PySem.W.Frag) (PO : POk) (mg : Str → Option Value) (base : Heap) (k : Nat) (C : Addr) (sp : SpO) : Prop where
  ex : ∃ (f : Addr) (fd : FuncData) (ps : List Str), Mk K C f ∧ FnOk P w K mg base CX0 k f fd ps (hSpO K PO C sp) ∧ Binds K fd ps []
/-- behind a call that had the object -/
theorem Rel.behindO {i : Nat} {v : V} {d : PV} {a dx C : Addr} {fs fs' : List (Str × PV)} {G2 H2 : Hp} (r : Rel K PO B G0 G1 H1 pl σ ρ) (e : ρ[i]? = some (some (.ob (.obj a) a dx C fs))) (s : Same G1 G2) (r2 : Rel K PO (del (del H1 a) dx) G1 G2 H2 pl [some v] [some (.ob d a dx C fs')]) : Rel K PO B G0 G2 H2 pl (σ ++ [some v]) (ρ.set i (some (.ob (.obj a) a dx C fs')) ++ [some (.sh d)]) := by
  have hl := r.len
  have hi := (List.getElem?_eq_some_iff.mp e).1
  obtain ⟨fp, f1, f2, f3, f4⟩ := r.ex2
  obtain ⟨v0, e1, e2⟩ := f1 i _ e
  obtain ⟨xs, eA, k0, k1, k2, k3⟩ := e2
  have hai : a ∈ fp i := by rw [eA]; simp
  have hdi : dx ∈ fp i := by rw [eA]; simp
  obtain ⟨qa1, qa2, qa3, qa4⟩ := f4 i a hai
  obtain ⟨qd1, qd2, qd3, qd4⟩ := f4 i dx hdi
  obtain ⟨gp, g1, g2, g3, g4⟩ := r2.ex
  obtain ⟨v1, e3, xs2, eA2, m1, m2, m3, m4⟩ := g1 0 _ rfl
  cases e3
  obtain ⟨w1, w2, w3, w4⟩ := g4 0 a (by rw [eA2]; simp)
  obtain ⟨z1, z2, z3, z4⟩ := g4 0 dx (by rw [eA2]; simp)
  have nea : ∀ b, b ≠ a → b ≠ dx → del (del H1 a) dx b = H1 b := fun b h h' => by rw [del_ne h', del_ne h]
  have keepH : ∀ b o, H1 b = some o → b ≠ a → b ≠ dx → b ∉ pads pl → H2 b = some o := fun b o h1 h2 h2' h3 => r2.fr b o (by rw [nea b h2 h2']; exact h1) h3
  have keepG : ∀ b, Oth H1 b → b ≠ a → b ≠ dx → G2 b = G1 b := fun b h1 h2 h2' => r2.gb b (h1.to fun o e => by rw [nea b h2 h2']; exact e)
  have ba : ∀ b, B b ≠ none → b ≠ a := fun b h z => h (by rw [z]; exact qa2)
  have bd : ∀ b, B b ≠ none → b ≠ dx := fun b h z => h (by rw [z]; exact qd2)
  have gbG : ∀ b, Oth B b → G2 b = G0 b := fun b hb => by
    by_cases hp : b ∈ pads pl
    · have e1 := r2.ok.free b hp
      have e2 := r.ok.free b hp
      rw [e1, ← e2]
      exact r.gb b hb
    · exact (keepG b (hb.to fun o e => r.fr b o e hp) (ba b hb.1) (bd b hb.1)).trans (r.gb b hb)
  have off : ∀ j b, b ∈ fp j → i ≠ j → b ≠ a ∧ b ≠ dx := fun j b hb hne => ⟨fun z => hne (f3 _ _ a hai (by rw [← z]; exact hb)), fun z => hne (f3 _ _ dx hdi (by rw [← z]; exact hb))⟩
  refine ⟨r2.ok, gbG, fun b hb => r2.on b (by rw [nea b (ba b hb) (bd b hb)]; exact r.on b hb), fun b o eb hb => keepH b o (r.fr b o eb hb) (ba b (by rw [eb]; simp)) (bd b (by rw [eb]; simp)) hb, by rw [List.length_append, List.length_append, List.length_set, hl]; rfl, ?_⟩
  refine ⟨fun j => if j = ρ.length then [] else fp j, fun j vl q => ?_, fun j => ?_, fun j k b h1 h2 => ?_, fun j b h1 => ?_⟩
  · try dsimp only
    rcases get_app_some q with ⟨hj, q0⟩ | ⟨hj, q0⟩
    · rw [List.length_set] at hj
      rw [if_neg (by omega)]
      rcases get_set_some q0 with ⟨rfl, _, q1⟩ | ⟨hne, q1⟩
      · cases q1
        exact ⟨v0, by rw [List.getElem?_append_left (by omega)]; exact e1, xs2, eA, by rw [rs_obj k0]; exact Rs.obj, m2, m3, m4⟩
      · obtain ⟨vj, p1, p2⟩ := f1 j vl q1
        refine ⟨vj, by rw [List.getElem?_append_left (by omega)]; exact p1, p2.mono s (plLe.refl _) fun b hb o eo => ?_⟩
        obtain ⟨o1, o2⟩ := off j b hb hne
        exact keepH b o eo o1 o2 (f4 j b hb).2.2.1
    · rw [List.length_set] at hj
      subst hj
      cases q0
      rw [if_pos rfl]
      exact ⟨v, by rw [List.getElem?_append_right (by omega), hl, Nat.sub_self]; rfl, rfl, m1⟩
  · try dsimp only
    split
    · exact List.nodup_nil
    · exact f2 _
  · try dsimp only at h1 h2
    split at h1
    · cases h1
    · split at h2
      · cases h2
      · exact f3 _ _ b h1 h2
  · try dsimp only at h1
    split at h1
    · cases h1
    · obtain ⟨q1, q2, q3, q4⟩ := f4 j b h1
      by_cases z : b = a
      · subst z
        exact ⟨w1, q2, q3, w4⟩
      · by_cases z' : b = dx
        · subst z'
          exact ⟨z1, q2, q3, z4⟩
        · refine ⟨(keepG b q4 z z').trans q1, q2, q3, ?_⟩
          cases eo : H1 b with
          | none => exact absurd eo q4.1
          | some o => rw [keepH b o eo z z' q3]; simp
/-! ### f(o, ..) -/
def pCallO (i : Nat) (C : Addr) (sp : SpO) (p : PX (List PV)) : En → (Vl → En → Prop) → Prop := fun ρ post => p ρ fun ds => ∃ a dx fs, ρ[i]? = some (some (.ob (.obj a) a dx C fs)) ∧ sp ds fs fun d fs' => post (.sh d) (ρ.set i (some (.ob (.obj a) a dx C fs')))
theorem sm_callO {i : Nat} {C : Addr} {sp : SpO} {t : TA} {p : PX (List PV)} (h : SAF K PO i t p) : SM K PO (tCall (hSpO K PO C sp) [] E0 t) (pCallO i C sp p) := fun {B G0 G H pl σ ρ Q post} r hp hq => by
  refine h r hp fun us v ds G1 H1 pl1 s1 hds ev hp1 => ?_
  obtain ⟨a, dx, fs, e, hp1⟩ := hp1
  have r1 := r.step s1
  obtain ⟨v', A, ev', hR, nd, n⟩ := r1.var e
  rw [ev] at ev'
  cases ev'
  obtain ⟨xs, rfl, k0, k1, k2, k3⟩ := hR
  obtain ⟨n1, n2, n3, n4⟩ := n a (by simp)
  obtain ⟨o1, o2, o3, o4⟩ := n dx (by simp)
  have hne : dx ≠ a := fun z => by rw [z] at nd; simp at nd
  rw [rs_obj k0]
  show hSpO K PO C sp ((.ref a :: us) ++ []) H1 Q E0
  rw [List.append_nil]
  exact ⟨G1, pl1, ds, fs, a, dx, us, xs, _, rfl, s1.ok, hds, k1, k2, hne, ⟨n1, o1⟩, ⟨n3, o3⟩, k3, hp1, fun d fs' v G2 H2 hpost s2 r2 => hq v (.sh d) _ G2 H2 pl1 (s1.g.trans s2) s1.le (r1.behindO e s2 r2) hpost⟩
theorem qm_cO {i k j : Nat} {x : Str} {C : Addr} {sp : SpO} {p0 pos : Pos} {e : Expr} {es : List Expr} {t : TA} {p : PX (List PV)} (hK : X.K = K) (c : CalO X.prog X.w X.K PO X.mg X.base k x C sp) (hr : Room j X.A) (hk : k ≤ j) (hg : Gl X x) (ha : QAF K PO X i (e :: es) t p)
    (hdb : (x == ("__debug__" : Str)) = false := by decide) (he : starEach (e :: es) X.env = (false, eval e X.env) :: starEach es X.env := by rfl) (hpl : (backTo pos (starEach es X.env)).any (·.1) = false := by rfl) :
    QM K PO X (.Call (.Name x p0) (e :: es) [] pos) (tCall (hSpO K PO C sp) [] E0 t) (pCallO i C sp p) := by
  subst hK
  exact ⟨pe_c c hr hk hg ha.pe hdb he hpl, sm_callO ha.sd⟩
/-! ### a body -/
def startO (n : Nat) (ds : List PV) (a dx C : Addr) (fs : List (Str × PV)) : En := some (.ob (.obj a) a dx C fs) :: (ds.map (fun d => some (.sh d)) ++ List.replicate (n - ds.length - 1) none)
theorem rel_startO {N : List Str} {vs : List V} {xs : List (Str × V)} {ds : List PV} {fs : List (Str × PV)} {a dx C : Addr} (o : Ok PO G H pl) (h : Rl K pl G ds vs) (h1 : H a = some (.ins C dx xs)) (h1' : H dx = some (.own a)) (hne : dx ≠ a) (h2 : G a = none ∧ G dx = none) (h3 : a ∉ pads pl ∧ dx ∉ pads pl) (h4 : Ra K pl G fs xs) : Rel K PO (del (del H a) dx) G G H pl (start N (.ref a :: vs)) (startO N.length ds a dx C fs) := by
  have hl := h.len
  have d2 : ∀ b, del (del H a) dx b ≠ none → b ≠ dx := fun b hb z => hb (by rw [z]; exact del_same)
  have d1 : ∀ b, del (del H a) dx b ≠ none → b ≠ a := fun b hb z => hb (by rw [del_ne (d2 b hb), z]; exact del_same)
  have dH : ∀ b, del (del H a) dx b ≠ none → del (del H a) dx b = H b := fun b hb => by rw [del_ne (d2 b hb), del_ne (d1 b hb)]
  refine ⟨o, fun _ _ => rfl, fun b hb => by rw [dH b hb] at hb; exact hb, fun b ob e _ => by rw [dH b (by rw [e]; simp)] at e; exact e, ?_, ⟨fun i => if i = 0 then [a, dx] else [], fun i vl e => ?_, fun i => ?_, fun i j b q1 q2 => ?_, fun i b q => ?_⟩⟩
  · unfold L2.start startO
    simp only [List.length_append, List.length_map, List.length_replicate, List.length_cons, List.length_nil, hl]
    omega
  · unfold startO at e
    unfold L2.start
    match i, e with
    | 0, e =>
      cases e
      exact ⟨.ref a, rfl, xs, rfl, Rs.obj, h1, h1', h4⟩
    | i + 1, e =>
      rw [List.getElem?_cons_succ] at e
      by_cases hi : i < ds.length
      · rw [List.getElem?_append_left (by rw [List.length_map]; exact hi), List.getElem?_map, List.getElem?_eq_getElem hi] at e
        obtain ⟨x, h1, h2⟩ := h.get (List.getElem?_eq_getElem hi)
        cases e
        refine ⟨x, ?_, ?_⟩
        · rw [List.map_cons, List.cons_append, List.getElem?_cons_succ, List.getElem?_append_left (by rw [List.length_map]; omega), List.getElem?_map, h1]
          rfl
        · show RV K pl G H _ _ (if i + 1 = 0 then [a, dx] else [])
          rw [if_neg (by omega)]
          exact ⟨rfl, h2⟩
      · rw [List.getElem?_append_right (by rw [List.length_map]; omega), List.getElem?_replicate] at e
        split at e <;> cases e
  · try dsimp only
    split
    · simp [Ne.symm hne]
    · exact List.nodup_nil
  · try dsimp only at q1 q2
    split at q1
    · split at q2
      · omega
      · cases q2
    · cases q1
  · try dsimp only at q
    split at q
    · rcases List.mem_cons.mp q with rfl | q
      · exact ⟨h2.1, by rw [del_ne (Ne.symm hne)]; exact del_same, h3.1, by rw [h1]; simp⟩
      · rw [List.mem_singleton.mp q]
        exact ⟨h2.2, del_same, h3.2, by rw [h1']; simp⟩
    · cases q
theorem Rel.keepO {v : V} {d d0 : PV} {m : Nat} {a dx C : Addr} {fs : List (Str × PV)} (r : Rel K PO B G0 G H pl (σ ++ [some v]) (ρ ++ [some (.sh d)])) (e : ρ[m]? = some (some (.ob d0 a dx C fs))) : Rel K PO B G0 G H pl [some v] [some (.ob d a dx C fs)] := by
  have hl := r.lenT
  have hm := (List.getElem?_eq_some_iff.mp e).1
  obtain ⟨fp, f1, f2, f3, f4⟩ := r.ex
  obtain ⟨v0, e1, xs, ea, k1, k2, k3, k4⟩ := f1 m _ (by rw [List.getElem?_append_left hm]; exact e)
  obtain ⟨v1, e2, hA, hd⟩ := f1 ρ.length (.sh d) (by rw [List.getElem?_append_right (Nat.le_refl _), Nat.sub_self]; rfl)
  rw [List.getElem?_append_right (by omega), hl, Nat.sub_self] at e2
  cases e2
  refine ⟨r.ok, r.gb, r.on, r.fr, rfl, fun i => if i = 0 then fp m else [], fun i vl q => ?_, fun i => ?_, fun i j b h1 h2 => ?_, fun i b h1 => ?_⟩
  · have h0 : i = 0 := by have := (List.getElem?_eq_some_iff.mp q).1; simp at this; omega
    subst h0
    cases q
    exact ⟨v, rfl, xs, ea, hd, k2, k3, k4⟩
  · try dsimp only
    split
    · exact f2 _
    · exact List.nodup_nil
  · try dsimp only at h1 h2
    split at h1
    · split at h2
      · omega
      · cases h2
    · cases h1
  · try dsimp only at h1
    split at h1
    · exact f4 _ b h1
    · cases h1
end
def endsO (a dx C : Addr) (post : PV → List (Str × PV) → Prop) : PEnds := { nx := fun ρ => ∃ fs', ρ[0]? = some (some (.ob (.obj a) a dx C fs')) ∧ post .non fs', rt := fun vl => ∃ d fs', vl = .ob d a dx C fs' ∧ post d fs', bk := fun _ => False, ct := fun _ => False }
section
variable {P : Program} {w : World} {K : PySem.W.Frag} {PO : POk} {mg : Str → Option Value} {base : Heap}
theorem fn_O {x qual : Str} {st : Stmt} {f C : Addr} {fd : FuncData} {N ps : List Str} {k : Nat} {sp : SpO} (m : Nat) (F : Fun K x qual st f fd) (S : FnScope N ps (defScope st)) (len : ∀ ds fs post, sp ds fs post → ds.length = m) (hm : ps.length = m + 1)
    (hbody : ∀ (cdv : Value) (A : Around) (outer : List Env) (s : Shared) (H : Hp) (E : XK) (a dx : Addr), Room k (A.deeper (envOfC qual (defScope st) s.heap.objs.size f cdv)) →
      ∃ t p, QB K PO (fun _ _ _ _ => False) (cxOf CX0 P w K mg base N qual (defScope st) f cdv A outer s H E).nox (defBody st) t p ∧ ∀ ds fs post, sp ds fs post → p (endsO a dx C post) (startO N.length ds a dx C fs)) : FnOk P w K mg base CX0 (k + 1) f fd ps (hSpO K PO C sp) := by
  refine F.ok S (fun vs H Q E h => ?_) (fun cdv A outer s H vs Q E hr h => ?_)
  · obtain ⟨G, pl, ds, fs, a, dx, us, xs, post, rfl, _, hl, _, _, _, _, _, _, hs, _⟩ := h
    rw [List.length_cons, hl.len, len ds fs post hs, hm]
  · obtain ⟨G, pl, ds, fs, a, dx, us, xs, post, rfl, o, hl, k1, k2, k3, k4, k5, k6, hs, hq⟩ := h
    obtain ⟨t, p, q, hp⟩ := hbody cdv A outer s H E a dx hr
    refine ⟨t, q.pe, ?_⟩
    refine q.sd (P := endsO a dx C post) (rel_startO o hl k1 k2 k3 k4 k5 k6) ⟨fun {G' H' pl' σ' ρ'} b c r hpost => ?_, fun _ _ _ h => h.elim, fun _ _ _ h => h.elim, fun {G' H' pl' v vl} b c r hpost => ?_, ?_⟩ (hp ds fs post hs)
    · cases c
      obtain ⟨es', e, hpost⟩ := hpost
      exact hq .non es' .non G' H' hpost b ((r.pushS (d := .non) (v := .non) Rs.non).keepO e)
    · cases c
      obtain ⟨d, es', rfl, hpost⟩ := hpost
      exact hq d es' v G' H' hpost b r
    · exact fun _ _ _ _ _ h => h.elim
theorem At.calO {x : Str} {st : Stmt} {C : Addr} {N ps : List Str} {k : Nat} {sp : SpO} (m : Nat) (F : At K mg x st) (S : FnScope N ps (defScope st)) (len : ∀ ds fs post, sp ds fs post → ds.length = m) (hm : ps.length = m + 1)
    (hb : ∀ (kV doc pm : Value) (an : Option Addr) (cdv ct : Value) (us : List Value), us.length = ps.length → bindArgs (PySem.W.fnOf x x (defArgs st) (defBody st) (defScope st) .none kV doc pm an cdv ct) ⟨us, []⟩ = pure (ps.zip us))
    (hbody : ∀ (f : Addr) (cdv : Value) (A : Around) (outer : List Env) (s : Shared) (H : Hp) (E : XK) (a dx : Addr), Room k (A.deeper (envOfC x (defScope st) s.heap.objs.size f cdv)) →
      ∃ t p, QB K PO (fun _ _ _ _ => False) (cxOf CX0 P w K mg base N x (defScope st) f cdv A outer s H E).nox (defBody st) t p ∧ ∀ ds fs post, sp ds fs post → p (endsO a dx C post) (startO N.length ds a dx C fs)) : CalO P w K PO mg base (k + 1) x C sp := by
  obtain ⟨f, fd, F', hmg, b⟩ := F.ex
  exact ⟨f, fd, ps, fn_O m F' S len hm (hbody f), hmg, F'.kp, b ps hb⟩
end
/-! ### methods and new objects -/
section
variable {K : PySem.W.Frag} {PO : POk} {X : Cx} {W : WX} {ρ : En} {P : PEnds}
def pMeth (i : Nat) (C : Addr) (m : Str) (sp : SpO) (p : PX (List PV)) : En → (Vl → En → Prop) → Prop := fun ρ post => (∃ a dx fs, ρ[i]? = some (some (.ob (.obj a) a dx C fs)) ∧ fs.lookup m = none) ∧ pCallO i C sp p ρ post
theorem sm_meth {i : Nat} {C : Addr} {m : Str} {sp : SpO} {t : TA} {p : PX (List PV)} (h : SA K PO t p) : SM K PO (tMeth C m (hSpO K PO C sp) [] E0 (tVar i) t) (pMeth i C m sp p) := fun {B G0 G H pl σ ρ Q post} r hp hq => by
  obtain ⟨⟨a0, dx0, fs0, e0, hl0⟩, hp⟩ := hp
  obtain ⟨v, A, ev, ⟨xs0, rfl, q0, q1, q2, q3⟩, _⟩ := r.var e0
  rw [rs_obj q0] at ev
  refine ⟨.ref a0, ev, a0, dx0, xs0, rfl, q1, q3.none hl0, h r hp fun us ds G1 H1 pl1 s1 hds hp1 => ?_⟩
  obtain ⟨a, dx, fs, e, hp1⟩ := hp1
  rw [e0] at e
  cases e
  have r1 := r.step s1
  obtain ⟨v', A, ev', hR, nd, n⟩ := r1.var e0
  obtain ⟨xs, rfl, k0, k1, k2, k3⟩ := hR
  obtain ⟨n1, n2, n3, n4⟩ := n a0 (by simp)
  obtain ⟨o1, o2, o3, o4⟩ := n dx0 (by simp)
  have hne : dx0 ≠ a0 := fun z => by rw [z] at nd; simp at nd
  rw [List.append_nil]
  exact ⟨G1, pl1, ds, fs0, a0, dx0, us, xs, _, rfl, s1.ok, hds, k1, k2, hne, ⟨n1, o1⟩, ⟨n3, o3⟩, k3, hp1, fun d fs' v G2 H2 hpost s2 r2 => hq v (.sh d) _ G2 H2 pl1 (s1.g.trans s2) s1.le (r1.behindO e0 s2 r2) hpost⟩
theorem qm_meth {i k j : Nat} {x m : Str} {C : Addr} {sp : SpO} {p0 pos apos : Pos} {e : Expr} {es : List Expr} {t : TA} {p : PX (List PV)} (hK : X.K = K) (c : Cls K C) (M : CalMt X.prog X.w X.K PO X.mg X.base k C m sp) (hr : Room j X.A) (hk : k ≤ j) (ho : PE X (.Name x p0) (tVar i)) (ha : QA K PO X (e :: es) t p)
    (hpe : ∀ {f : Addr} {fd : FuncData} {ps : List Str} {sp' : Sp} {t' : TA}, PE X (.Name x p0) (tVar i) → Cls X.K C → Meth X.K C m f → FnOk X.prog X.w X.K X.mg X.base CX0 k f fd ps sp' → Room k X.A → Binds X.K fd ps [] → PA X (e :: es) t' → PE X (.Call (.Attribute (.Name x p0) m apos) (e :: es) [] pos) (tMeth C m sp' [] E0 (tVar i) t')) :
    QM K PO X (.Call (.Attribute (.Name x p0) m apos) (e :: es) [] pos) (tMeth C m (hSpO K PO C sp) [] E0 (tVar i) t) (pMeth i C m sp p) := by
  subst hK
  obtain ⟨f, fd, ps, hM, F, b⟩ := M.ex
  exact ⟨hpe ho c hM F (hr.mono hk) b ha.pe, sm_meth ha.sd⟩
def pMake (C : Addr) (sp : SpO) : PX Vl := fun _ post => sp [] [] fun d fs' => d = .non ∧ ∀ a dx, post (.ob (.obj a) a dx C fs')
theorem so_make {C : Addr} {sp : SpO} : SO K PO (tMake C (hSpO K PO C sp) [] E0 tNil) (pMake C sp) := fun {B G0 G H pl σ ρ Q post} r hp hq => by
  intro x dx nx ndx nex
  have gx := r.ok.sub.free nx
  have gd := r.ok.sub.free ndx
  have px : x ∉ pads pl := fun z => r.ok.live x z nx
  have pd : dx ∉ pads pl := fun z => r.ok.live dx z ndx
  have ok1 := ok_upd (u := .own x) r.ok ndx
  have ok2 := ok_upd (p := x) (u := .ins C dx []) ok1 (by rw [upd_ne (Ne.symm nex)]; exact nx)
  show hSpO K PO C sp [.ref x] _ _ _
  refine ⟨G, pl, [], [], x, dx, [], [], _, rfl, ok2, Rl.nil, upd_same, by rw [upd_ne nex, upd_same], nex, ⟨gx, gd⟩, ⟨px, pd⟩, Ra.nil, hp, fun d fs' v G2 H2 hpost s2 r2 => ?_⟩
  obtain ⟨rfl, hpost⟩ := hpost
  obtain ⟨fp, f1, f2, f3, f4⟩ := r2.ex
  obtain ⟨v1, e1, xs, eA, m1, m2, m3, m4⟩ := f1 0 _ rfl
  cases e1
  refine ⟨rs_non m1, ?_⟩
  have hB : ∀ b ob, H b = some ob → del (del (upd (upd H dx (.own x)) x (.ins C dx [])) x) dx b = some ob := fun b ob e => by
    have b1 : b ≠ x := fun z => by rw [z, nx] at e; cases e
    have b2 : b ≠ dx := fun z => by rw [z, ndx] at e; cases e
    rw [del_ne b2, del_ne b1, upd_ne b1, upd_ne b2]
    exact e
  obtain ⟨w1, w2, w3, w4⟩ := f4 0 x (by rw [eA]; simp)
  obtain ⟨z1, z2, z3, z4⟩ := f4 0 dx (by rw [eA]; simp)
  refine hq (.ref x) (.ob (.obj x) x dx C fs') [x, dx] G2 H2 pl ⟨s2, fun a ha => r2.gb a (ha.to fun o e => hB a o e), fun b o e hb => r2.fr b o (hB b o e) hb, rfl, r2.ok⟩ ⟨xs, rfl, Rs.obj, m2, m3, m4⟩ (by simp [Ne.symm nex]) (fun b hb => ?_) (hpost x dx)
  rcases List.mem_cons.mp hb with rfl | hb
  · exact ⟨nx, w1, w3⟩
  · rw [List.mem_singleton.mp hb]
    exact ⟨ndx, z1, z3⟩
theorem qo_make {k j : Nat} {x : Str} {C : Addr} {sp : SpO} {p0 pos : Pos} (hK : X.K = K) (M : CalMk X.prog X.w X.K PO X.mg X.base k C sp) (hr : Room j X.A) (hk : k + 1 ≤ j) (hg : Gl X x) (hm : X.mg x = some (.ref C)) (hdb : (x == ("__debug__" : Str)) = false := by decide) : QO K PO X (.Call (.Name x p0) [] [] pos) (tMake C (hSpO K PO C sp) [] E0 tNil) (pMake C sp) := by
  subst hK
  obtain ⟨f, fd, ps, hM, F, b⟩ := M.ex
  exact ⟨pe_make0 hM F (hr.mono hk) hg hm b .nil pass0 hdb, so_make⟩
/-! ### walking -/
variable {i : Nat} {C : Addr} {a dx : Addr} {fs : List (Str × PV)} {f m : Str} {d y : PV} {ds : List PV}
theorem u_fld {post : PV → Prop} (h1 : ρ[i]? = some (some (.ob (.obj a) a dx C fs))) (h2 : fs.lookup f = some y) (h : post y) : pFld i C f ρ post := ⟨a, dx, fs, y, h1, h2, h⟩
def setFQ (i : Nat) (C : Addr) (f : Str) (d : PV) (ρ : En) (P : PEnds) : Prop := ∃ a dx fs, ρ[i]? = some (some (.ob (.obj a) a dx C fs)) ∧ fs.length < 1000 ∧ P.nx (ρ.set i (some (.ob (.obj a) a dx C (putA f d fs))))
theorem u_setF {p : PX PV} (h : p ρ fun d => setFQ i C f d ρ P) : pSetF i C f p P ρ := h
theorem u_setFQ (h1 : ρ[i]? = some (some (.ob (.obj a) a dx C fs))) (h2 : fs.length < 1000) (h : P.nx (ρ.set i (some (.ob (.obj a) a dx C (putA f d fs))))) : setFQ i C f d ρ P := ⟨a, dx, fs, h1, h2, h⟩
def callOQ (i : Nat) (C : Addr) (sp : SpO) (ds : List PV) (ρ : En) (post : Vl → En → Prop) : Prop := ∃ a dx fs, ρ[i]? = some (some (.ob (.obj a) a dx C fs)) ∧ sp ds fs fun d fs' => post (.sh d) (ρ.set i (some (.ob (.obj a) a dx C fs')))
theorem u_callO {sp : SpO} {p : PX (List PV)} {post : Vl → En → Prop} (h : p ρ fun ds => callOQ i C sp ds ρ post) : pCallO i C sp p ρ post := h
theorem u_callOQ {sp : SpO} {post : Vl → En → Prop} (h1 : ρ[i]? = some (some (.ob (.obj a) a dx C fs))) (h : sp ds fs fun d fs' => post (.sh d) (ρ.set i (some (.ob (.obj a) a dx C fs')))) : callOQ i C sp ds ρ post := ⟨a, dx, fs, h1, h⟩
theorem u_meth {sp : SpO} {p : PX (List PV)} {post : Vl → En → Prop} (h1 : ρ[i]? = some (some (.ob (.obj a) a dx C fs))) (h2 : fs.lookup m = none) (h : pCallO i C sp p ρ post) : pMeth i C m sp p ρ post := ⟨⟨a, dx, fs, h1, h2⟩, h⟩
theorem u_make {sp : SpO} {post : Vl → Prop} (h : sp [] [] fun d fs' => d = .non ∧ ∀ a dx, post (.ob (.obj a) a dx C fs')) : pMake C sp ρ post := h
end
/-! ## a dict keyed by tuples that owns its lists -/
abbrev zpE (kvs : List (List Key × List PV)) (as : List Addr) : List (List Key × V) := kvs.zipWith (fun kv b => (kv.1, V.ref b)) as
theorem zpe_look (k : List Key) : ∀ (kvs : List (List Key × List PV)) (as : List Addr), as.length = kvs.length →
    (∀ ds, lookD kvs k = some ds → ∃ j b, kvs[j]? = some (k, ds) ∧ as[j]? = some b ∧ valV (zpE kvs as) k = some (.ref b) ∧ ∀ ds', putD kvs k ds' = kvs.set j (k, ds')) ∧ (lookD kvs k = none → valV (zpE kvs as) k = none ∧ k ∉ kvs.map (·.1))
  | [], as, h => ⟨fun ds e => (nomatch e), fun _ => by cases as with | nil => exact ⟨rfl, by simp⟩ | cons _ _ => cases h⟩
  | (k', d) :: kvs, [], h => by cases h
  | (k', d) :: kvs, b :: as, h => by
    obtain ⟨h1, h2⟩ := zpe_look k kvs as (by simpa using h)
    have e1 : valV (zpE ((k', d) :: kvs) (b :: as)) k = if k' = k then some (.ref b) else valV (zpE kvs as) k := look_cons k' k (V.ref b) (zpE kvs as)
    rw [e1, look_cons]
    by_cases hk : k' = k
    · rw [if_pos hk, if_pos hk]
      refine ⟨fun ds e => ?_, fun e => nomatch e⟩
      cases e
      refine ⟨0, b, by rw [hk]; rfl, rfl, rfl, fun ds' => ?_⟩
      unfold putD
      rw [if_pos hk, hk]
      rfl
    · rw [if_neg hk, if_neg hk]
      refine ⟨fun ds e => ?_, fun e => ⟨(h2 e).1, ?_⟩⟩
      · obtain ⟨j, c, q1, q2, q3, q4⟩ := h1 ds e
        refine ⟨j + 1, c, q1, q2, q3, fun ds' => ?_⟩
        unfold putD
        rw [if_neg hk, q4]
        rfl
      · rw [List.map_cons, List.mem_cons]
        exact fun z => z.elim (fun z => hk z.symm) (h2 e).2
theorem zpe_set (k : List Key) (ds : List PV) : ∀ (kvs : List (List Key × List PV)) (as : List Addr) (j : Nat) (ds0 : List PV), kvs[j]? = some (k, ds0) → zpE (kvs.set j (k, ds)) as = zpE kvs as
  | [], as, j, ds0, h => by simp at h
  | kv :: kvs, [], j, ds0, h => by simp [zpE]
  | kv :: kvs, b :: as, 0, ds0, h => by
    cases h
    rfl
  | kv :: kvs, b :: as, j + 1, ds0, h => by
    show zpE (kv :: kvs.set j (k, ds)) (b :: as) = _
    have := zpe_set k ds kvs as j ds0 (by simpa using h)
    unfold zpE at *
    rw [List.zipWith_cons_cons, List.zipWith_cons_cons, this]
theorem zpe_app (k : List Key) (d : List PV) (c : Addr) (kvs : List (List Key × List PV)) (as : List Addr) (h : as.length = kvs.length) : zpE (kvs ++ [(k, d)]) (as ++ [c]) = zpE kvs as ++ [(k, .ref c)] := by
  unfold zpE
  rw [List.zipWith_append h.symm]
  rfl
theorem zpe_keys : ∀ (kvs : List (List Key × List PV)) (as : List Addr), as.length = kvs.length → (zpE kvs as).map (·.1) = kvs.map (·.1)
  | [], as, h => by simp [zpE]
  | kv :: kvs, [], h => by cases h
  | kv :: kvs, b :: as, h => by
    have := zpe_keys kvs as (by simpa using h)
    unfold zpE at *
    rw [List.zipWith_cons_cons, List.map_cons, List.map_cons, this]
section
variable {K : PySem.W.Frag} {PO : POk} {X : Cx} {W : WX}
/-! ### {} -/
def pDnewE : PX Vl := fun _ post => post (.oE [])
theorem qo_dnewE {pos : Pos} : QO K PO X (.Dict [] [] pos) tDNewT pDnewE := ⟨pe_dnewT, fun {B G0 G H pl σ ρ Q post} r hp hq => fun p hn => by
  refine hq _ (.oE []) [p] G _ pl (Stp.tmp r.ok hn) ⟨p, [], rfl, rfl, upd_same, rfl, by simp, fun i b kv e => by simp at e⟩ (by simp) (fun a ha => ?_) hp
  rw [List.mem_singleton.mp ha]
  exact ⟨hn, r.ok.sub.free hn, fun z => r.ok.live p z hn⟩⟩
/-! ### k in d -/
def pDinE (n : Bool) (i : Nat) (py : PX PV) : PX PV := fun ρ post => py ρ fun y => ∃ kvs es k, ρ[i]? = some (some (.oE kvs)) ∧ y = .tup es ∧ keysOf es = some k ∧ post (.bl (if n then !(lookD kvs k).isSome else (lookD kvs k).isSome))
theorem zpe_some {k : List Key} {kvs : List (List Key × List PV)} {as : List Addr} (h : as.length = kvs.length) : (valV (zpE kvs as) k).isSome = (lookD kvs k).isSome := by
  obtain ⟨h1, h2⟩ := zpe_look k kvs as h
  cases e : lookD kvs k with
  | none => rw [(h2 e).1]; rfl
  | some d => obtain ⟨j, b, _, _, q, _⟩ := h1 d e; rw [q]; rfl
theorem sx_dinE {i : Nat} {ty : TE} {py : PX PV} (hi : SX rS K PO ty py) : SX rS K PO (tDIn ty (tVar i)) (pDinE false i py) ∧ SX rS K PO (tDNotIn ty (tVar i)) (pDinE true i py) := by
  refine ⟨fun {B G0 G H pl σ ρ Q post} r hp hq => hi r hp fun y e G1 H1 pl1 s1 he hp1 => ?_, fun {B G0 G H pl σ ρ Q post} r hp hq => hi r hp fun y e G1 H1 pl1 s1 he hp1 => ?_⟩
  all_goals
    obtain ⟨kvs, es, k, ei, rfl, hk, hp3⟩ := hp1
    have r1 := r.step s1
    obtain ⟨v, A, ev, ⟨a, as, rfl, rfl, h1, h2, h3, h4⟩, _⟩ := r1.var ei
    obtain ⟨b, ys, rfl, w1, w2, _⟩ := rs_tupH (K := K) (pl := pl1) (G := G1) he
    refine ⟨.ref a, ev, a, _, rfl, .inr ⟨_, k, b, .inl h1, rfl, by rw [← keysOf_ok w2 hk]; exact s1.ok.sub _ _ w1, rfl⟩, ?_⟩
    rw [zpe_some h2]
    exact hq _ (.bl _) G1 H1 pl1 s1 (show Rs K pl1 G1 _ _ from Rs.bl) hp3
theorem qc_dinE {i : Nat} {x : Str} {p0 : Pos} {e : Expr} {ty : TE} {py : PX PV} (hu : X.A.units + 1 < cLine) (hi : QX rS K PO X e ty py) (ho : PE X (.Name x p0) (tVar i)) : QC K PO X .In e (.Name x p0) (tDIn ty (tVar i)) (pDinE false i py) := ⟨pc_din hu hi.pe ho, (sx_dinE hi.sd).1⟩
theorem qc_dninE {i : Nat} {x : Str} {p0 : Pos} {e : Expr} {ty : TE} {py : PX PV} (hu : X.A.units + 1 < cLine) (hi : QX rS K PO X e ty py) (ho : PE X (.Name x p0) (tVar i)) : QC K PO X .NotIn e (.Name x p0) (tDNotIn ty (tVar i)) (pDinE true i py) := ⟨pc_dnotin hu hi.pe ho, (sx_dinE hi.sd).2⟩
/-! ### d[k] = a new list -/
def pDputE (i : Nat) (pk : PX PV) (p : En → (Vl → En → Prop) → Prop) : PSt := fun P ρ => (∃ kvs, ρ[i]? = some (some (.oE kvs))) ∧ p ρ fun vl ρ' => ∃ kvs d, vl = .ol d ∧ ρ'[i]? = some (some (.oE kvs)) ∧ pk ρ' fun y => ∃ es k, y = .tup es ∧ keysOf es = some k ∧ lookD kvs k = none ∧ (kvs.map (·.1)).Nodup ∧ kvs.length < 16777216 ∧ P.nx (ρ'.set i (some (.oE (kvs ++ [(k, d)]))))
theorem ss_dputE {i : Nat} {tk te : TE} {pk : PX PV} {p : En → (Vl → En → Prop) → Prop} (hk : SX rS K PO tk pk) (h : SM K PO te p) : SS K PO W (tAsg te (gSub (tVar i) tk rSetD)) (pDputE i pk p) := fun {B G0 G H pl σ ρ D P} r e hp => by
  obtain ⟨⟨kvs0, e0⟩, hp⟩ := hp
  obtain ⟨v, A, ev, e2, _⟩ := r.var e0
  obtain ⟨a, as0, rfl, _, h0, _⟩ := e2
  refine h r hp fun w wl ρ' G' H' pl' s le r' hp1 => ?_
  obtain ⟨kvs, d, rfl, ei, hp2⟩ := hp1
  refine ⟨.ref a, ev, hk r'.drop hp2 fun y dy G2 H2 pl2 s2 hdy hp3 => ?_⟩
  obtain ⟨es, k, rfl, hk', hn, hnd, hl, hp4⟩ := hp3
  obtain ⟨bt, yt, rfl, t1, t2, _⟩ := rs_tupH (K := K) (pl := pl2) (G := G2) hdy
  obtain ⟨v', A', C, g1, g2, g3, nd, n, fin⟩ := (r'.step s2).mutT ei
  rw [ev] at g1
  cases g1
  obtain ⟨b, as, eb, rfl, k1, k2, k2', k3⟩ := g2
  cases eb
  obtain ⟨c, ys, rfl, rfl, q1, q2, q3⟩ := g3
  have nd' : a ∉ as ∧ as.Nodup ∧ c ∉ a :: as := by
    rw [List.nodup_append] at nd
    obtain ⟨n1, n2, n3⟩ := nd
    rw [List.nodup_cons] at n1
    exact ⟨n1.1, n1.2, fun z => n3 c z c (by simp) rfl⟩
  have hca : c ≠ a := fun z => nd'.2.2 (by simp [z])
  have hzk := zpe_keys kvs as k2
  have hzl : (zpE kvs as).length = kvs.length := by have := congrArg List.length hzk; rwa [List.length_map, List.length_map] at this
  have hput : putK (zpE kvs as) k (V.ref c) = zpE (kvs ++ [(k, d)]) (as ++ [c]) := by
    rw [put_eq _ _ _ (by rw [hzk]; exact hnd), putD_new (by rw [hzk]; exact ((zpe_look k kvs as k2).2 hn).2), zpe_app k d c kvs as k2]
  refine ⟨a, _, rfl, .inr ⟨_, k, bt, k1, rfl, by rw [← keysOf_ok t2 hk']; exact s2.ok.sub _ _ t1, by rw [line_eq]; exact Nat.lt_of_le_of_lt (Nat.le_of_eq hzl) hl, rfl⟩, e.nx (s.trans s2.g) (le.trans s2.le) (fin (upd H2 a (.dT (putK (zpE kvs as) k (V.ref c)))) (.oE (kvs ++ [(k, d)])) (a :: (as ++ [c])) (fun b hb => upd_ne fun z => hb (by simp [z])) (fun b hb => ?_) ⟨a, as ++ [c], rfl, rfl, ?_, ?_, ?_, ?_⟩ ?_ ?_) hp4⟩
  · by_cases z : b = a
    · subst z; rw [upd_same]; simp
    · rw [upd_ne z]; exact (n b (List.mem_append_left _ hb)).2.2.2
  · rw [upd_same, hput]
  · rw [List.length_append, List.length_append, k2]; rfl
  · rw [List.length_append, List.length_singleton]; omega
  · intro j b kv e3 e4
    by_cases hj : j < as.length
    · rw [List.getElem?_append_left hj] at e3
      rw [List.getElem?_append_left (by omega)] at e4
      obtain ⟨xs', w1, w2⟩ := k3 j b kv e3 e4
      refine ⟨xs', ?_, w2⟩
      rw [upd_ne fun z => by subst z; exact nd'.1 (List.mem_of_getElem? e3)]
      exact w1
    · have hj2 : j = as.length := by
        have := (List.getElem?_eq_some_iff.mp e3).1
        rw [List.length_append, List.length_singleton] at this
        omega
      subst hj2
      rw [List.getElem?_append_right (Nat.le_refl _), Nat.sub_self] at e3
      rw [List.getElem?_append_right (by omega), k2, Nat.sub_self] at e4
      cases e3
      cases e4
      exact ⟨ys, by rw [upd_ne hca]; exact q1, q2, q3⟩
  · rw [List.nodup_cons, List.nodup_append]
    refine ⟨fun z => ?_, nd'.2.1, by simp, fun x hx y hy z => ?_⟩
    · rcases List.mem_append.mp z with z | z
      · exact nd'.1 z
      · exact hca (List.mem_singleton.mp z).symm
    · subst z
      rw [List.mem_singleton.mp hy] at hx
      exact nd'.2.2 (List.mem_cons_of_mem _ hx)
  · intro b hb
    rcases List.mem_cons.mp hb with rfl | hb
    · simp
    · rcases List.mem_append.mp hb with hb | hb
      · exact List.mem_append_left _ (List.mem_cons_of_mem _ hb)
      · exact List.mem_append_right _ hb
theorem qs_dputE {i : Nat} {x : Str} {ek e : Expr} {p0 spos pos : Pos} {tk te : TE} {pk : PX PV} {p : En → (Vl → En → Prop) → Prop} (hk : QX rS K PO X ek tk pk) (h : QM K PO X e te p) (hpe : PE X ek tk → PG X (.Subscript (.Name x p0) ek spos) (gSub (tVar i) tk rSetD))
    (hs : swapsWithSole [.Subscript (.Name x p0) ek spos] e pos.line X.env = pure false := by rfl) (hw : swappedStores [.Subscript (.Name x p0) ek spos] e X.env = pure none := by rfl)
    (h1 : (assignEach [.Subscript (.Name x p0) ek spos] X.env).map (·.2) = [assign (.Subscript (.Name x p0) ek spos) X.env] := by rfl) :
    QS K PO W X (.Assign [.Subscript (.Name x p0) ek spos] e pos) (tAsg te (gSub (tVar i) tk rSetD)) (pDputE i pk p) := ⟨ps_asg h.pe (hpe hk.pe) hs hw h1, ss_dputE hk.sd h.sd⟩
/-! ### x = d[k], and a statement that changes x -/
def pTake (i m : Nat) (pk : PX PV) (q : PSt) : PSt := fun P ρ => (∃ kvs, ρ[i]? = some (some (.oE kvs))) ∧ m < ρ.length ∧ i ≠ m ∧ pk ρ fun y => ∃ kvs es k ds, ρ[i]? = some (some (.oE kvs)) ∧ y = .tup es ∧ keysOf es = some k ∧ lookD kvs k = some ds ∧
  ∀ a b, q { nx := fun ρ' => ∃ ds', ρ'[i]? = some (some (.sh (.obj a))) ∧ ρ'[m]? = some (some (.«at» (.obj b) b ds')) ∧ P.nx ((ρ'.set m none).set i (some (.oE (putD kvs k ds')))), rt := fun _ => False, bk := fun _ => False, ct := fun _ => False } ((ρ.set i (some (.sh (.obj a)))).set m (some (.«at» (.obj b) b ds)))
theorem ss_take {i m : Nat} {tk : TE} {pk : PX PV} {tS : TS} {q : PSt} (hk : SX rS K PO tk pk) (hS : SS K PO W tS q) : SS K PO W (tSeq (tAsg (tDGet (tVar i) tk) (gName m)) tS) (pTake i m pk q) := fun {B G0 G H pl σ ρ D P} r e hp => by
  obtain ⟨⟨kvs, ei⟩, hm, him, hp⟩ := hp
  obtain ⟨v, A, ev, e2, _⟩ := r.var ei
  obtain ⟨a, as0, rfl, _, _⟩ := e2
  refine ⟨.ref a, ev, hk r hp fun y dy G1 H1 pl1 s1 hdy hp1 => ?_⟩
  obtain ⟨kvs', es, k, ds, ei', rfl, hk', hl, hp2⟩ := hp1
  rw [ei] at ei'
  cases ei'
  have r1 := r.step s1
  obtain ⟨fp, f1, f2, f3, f4⟩ := r1.ex2
  obtain ⟨v', e3, a1, as, ea1, eA, k1, k2, k2', k3⟩ := f1 i _ ei
  subst ea1
  rw [ev] at e3
  cases e3
  obtain ⟨j, b, hj, hb, hv, hput⟩ := (zpe_look k kvs as k2).1 ds hl
  obtain ⟨xs, w1, w2, w3⟩ := k3 j b (k, ds) hb hj
  obtain ⟨bt, ys, rfl, t1, t2, _⟩ := rs_tupH (K := K) (pl := pl1) (G := G1) hdy
  refine ⟨_, .ref b, rfl, .inr ⟨_, k, bt, .inl k1, rfl, by rw [← keysOf_ok t2 hk']; exact s1.ok.sub _ _ t1, hv.symm⟩, ?_⟩
  have hlen := r1.len
  have hbm : b ∈ as := List.mem_of_getElem? hb
  have ndA : (a :: as).Nodup := by have := f2 i; rwa [eA] at this
  have nda : a ∉ as := (List.nodup_cons.mp ndA).1
  have nds : as.Nodup := (List.nodup_cons.mp ndA).2
  have hba : b ≠ a := fun z => nda (by rw [← z]; exact hbm)
  have inA : ∀ c, c ∈ a :: as → G1 c = none ∧ B c = none ∧ c ∉ pads pl1 ∧ Oth H1 c := fun c hc => f4 i c (by rw [eA]; exact hc)
  have hcl : ∀ c, c = a ∨ (c ∈ as ∧ c ≠ b) → c ∈ a :: as := fun c h => h.elim (fun z => by rw [z]; simp) fun z => List.mem_cons_of_mem _ z.1
  let B' : Hp := fun c => if c = a ∨ (c ∈ as ∧ c ≠ b) then H1 c else B c
  have hB1 : ∀ c, (c = a ∨ (c ∈ as ∧ c ≠ b)) → B' c = H1 c := fun c h => if_pos h
  have hB2 : ∀ c, ¬ (c = a ∨ (c ∈ as ∧ c ≠ b)) → B' c = B c := fun c h => if_neg h
  have hB3 : ∀ c, B c ≠ none → B' c = B c := fun c h => hB2 c fun z => h (inA c (hcl c z)).2.1
  have hbn : ¬ (b = a ∨ (b ∈ as ∧ b ≠ b)) := fun z => z.elim hba fun z => z.2 rfl
  have lm : m < σ.length := by rw [r.len]; exact hm
  have r3 : Rel K PO B' G1 G1 H1 pl1 (σ.set m (some (.ref b))) ((ρ.set i (some (.sh (.obj a)))).set m (some (.«at» (.obj b) b ds))) := by
    refine ⟨r1.ok, fun _ _ => rfl, fun c hc => ?_, fun c o ec hcp => ?_, by rw [List.length_set, List.length_set, List.length_set, hlen], fun n => if n = m then [b] else if n = i then [] else fp n, fun n vl q => ?_, fun n => ?_, fun n n' c h1 h2 => ?_, fun n c h1 => ?_⟩
    · by_cases z : c = a ∨ (c ∈ as ∧ c ≠ b)
      · rw [hB1 c z] at hc; exact hc
      · rw [hB2 c z] at hc; exact r1.on c hc
    · by_cases z : c = a ∨ (c ∈ as ∧ c ≠ b)
      · rw [hB1 c z] at ec; exact ec
      · rw [hB2 c z] at ec; exact r1.fr c o ec hcp
    · try dsimp only
      rcases get_set_some q with ⟨rfl, _, q0⟩ | ⟨hne, q0⟩
      · cases q0
        rw [if_pos rfl]
        exact ⟨.ref b, List.getElem?_set_self lm, xs, rfl, Rs.obj, w1, w2, w3⟩
      · rw [if_neg (Ne.symm hne)]
        rcases get_set_some q0 with ⟨rfl, _, q1⟩ | ⟨hne2, q1⟩
        · cases q1
          rw [if_pos rfl]
          exact ⟨.ref a, by rw [List.getElem?_set_ne hne]; exact ev, rfl, Rs.obj⟩
        · rw [if_neg (Ne.symm hne2)]
          obtain ⟨vn, p1, p2⟩ := f1 n vl q1
          exact ⟨vn, by rw [List.getElem?_set_ne hne]; exact p1, p2⟩
    · try dsimp only
      split
      · simp
      · split
        · exact List.nodup_nil
        · exact f2 _
    · try dsimp only at h1 h2
      have notb : ∀ n, n ≠ i → c ∈ fp n → c ≠ b := fun n hn hc z => hn (f3 _ _ c hc (by rw [eA, z]; exact List.mem_cons_of_mem _ hbm))
      split at h1
      · split at h2
        · omega
        · split at h2
          · cases h2
          · exact absurd (List.mem_singleton.mp h1) (notb n' (by assumption) h2)
      · split at h1
        · cases h1
        · split at h2
          · exact absurd (List.mem_singleton.mp h2) (notb n (by assumption) h1)
          · split at h2
            · cases h2
            · exact f3 _ _ c h1 h2
    · try dsimp only at h1
      split at h1
      · rw [List.mem_singleton.mp h1]
        obtain ⟨q1, q2, q3, q4⟩ := inA b (List.mem_cons_of_mem _ hbm)
        exact ⟨q1, by rw [hB2 b hbn]; exact q2, q3, q4.1⟩
      · split at h1
        · cases h1
        · rename_i hni
          obtain ⟨q1, q2, q3, q4⟩ := f4 n c h1
          refine ⟨q1, ?_, q3, q4.1⟩
          rw [hB2 c fun z => hni (f3 _ _ c h1 (by rw [eA]; exact hcl c z))]
          exact q2
  refine hS (P := { nx := fun ρ' => ∃ ds', ρ'[i]? = some (some (.sh (.obj a))) ∧ ρ'[m]? = some (some (.«at» (.obj b) b ds')) ∧ P.nx ((ρ'.set m none).set i (some (.oE (putD kvs k ds')))), rt := fun _ => False, bk := fun _ => False, ct := fun _ => False }) r3 ⟨fun {G' H' pl' σ' ρ'} sg le r' hn => ?_, fun _ _ _ h => h.elim, fun _ _ _ h => h.elim, fun _ _ _ h => h.elim, fun _ _ _ _ _ h => h.elim⟩ (hp2 a b)
  obtain ⟨ds', q1, q2, hn⟩ := hn
  cases le
  refine e.nx (s1.g.trans sg) s1.le ?_ hn
  obtain ⟨gp, g1, g2, g3, g4⟩ := r'.ex2
  obtain ⟨va, ga1, ga2⟩ := g1 i _ q1
  have hva : va = .ref a := rs_obj ga2.2
  rw [hva] at ga1
  obtain ⟨vb, gb1, xs', eB, o1, o2, o3, o4⟩ := g1 m _ q2
  have keep : ∀ c, (c = a ∨ (c ∈ as ∧ c ≠ b)) → ∀ o, H1 c = some o → H' c = some o := fun c hc o eo => r'.fr c o (by rw [hB1 c hc]; exact eo) (inA c (hcl c hc)).2.2.1
  have gfr : ∀ c, (c = a ∨ (c ∈ as ∧ c ≠ b)) → G' c = none := fun c hc => by
    obtain ⟨u1, u2, u3, u4⟩ := inA c (hcl c hc)
    rw [r'.gb c (u4.to fun o eo => by rw [hB1 c hc]; exact eo)]
    exact u1
  obtain ⟨bb1, bb2, bb3, bb4⟩ := g4 m b (by rw [eB]; simp)
  have hjl := (List.getElem?_eq_some_iff.mp hj).1
  refine ⟨r'.ok, fun c hc => ?_, fun c hc => ?_, fun c o ec hcp => ?_, by rw [List.length_set, List.length_set]; exact r'.len, fun n => if n = i then a :: as else if n = m then [] else gp n, fun n vl q => ?_, fun n => ?_, fun n n' c h1 h2 => ?_, fun n c h1 => ?_⟩
  · rw [r'.gb c (hc.to fun o eo => by rw [hB3 c (by rw [eo]; simp)]; exact eo)]
    exact r1.gb c hc
  · exact r'.on c (by rw [hB3 c hc]; exact hc)
  · exact r'.fr c o (by rw [hB3 c (by rw [ec]; simp)]; exact ec) hcp
  · try dsimp only
    rcases get_set_some q with ⟨rfl, _, q0⟩ | ⟨hne, q0⟩
    · cases q0
      rw [if_pos rfl]
      refine ⟨.ref a, ga1, a, as, rfl, rfl, ?_, ?_, ?_, fun n c kv e3 e4 => ?_⟩
      · rw [keep a (.inl rfl) _ k1, hput, show (kvs.set j (k, ds')).zipWith (fun kv b => (kv.1, V.ref b)) as = zpE (kvs.set j (k, ds')) as from rfl, zpe_set k ds' kvs as j ds hj]
      · rw [hput, List.length_set, k2]
      · rw [hput, List.length_set]; exact k2'
      · rw [hput] at e4
        by_cases hn' : n = j
        · subst hn'
          rw [hb] at e3
          cases e3
          rw [List.getElem?_set_self hjl] at e4
          cases e4
          exact ⟨xs', o2, o3, o4⟩
        · rw [List.getElem?_set_ne (Ne.symm hn')] at e4
          obtain ⟨xs0, z1, z2, z3⟩ := k3 n c kv e3 e4
          have hcb : c ≠ b := fun z => by
            subst z
            obtain ⟨i1, i2⟩ := List.getElem?_eq_some_iff.mp e3
            obtain ⟨j1, j2⟩ := List.getElem?_eq_some_iff.mp hb
            have pw := List.pairwise_iff_getElem.mp nds
            rcases Nat.lt_trichotomy n j with q | q | q
            · exact absurd (i2.trans j2.symm) (pw n j i1 j1 q)
            · exact hn' q
            · exact absurd (j2.trans i2.symm) (pw j n j1 i1 q)
          exact ⟨xs0, keep c (.inr ⟨List.mem_of_getElem? e3, hcb⟩) _ z1, Rl.mono sg (plLe.refl _) _ _ z2, z3⟩
    · rw [if_neg (Ne.symm hne)]
      rcases get_set_some q0 with ⟨_, _, q1'⟩ | ⟨hne2, q1'⟩
      · cases q1'
      · rw [if_neg (Ne.symm hne2)]
        exact g1 n vl q1'
  · try dsimp only
    split
    · exact ndA
    · split
      · exact List.nodup_nil
      · exact g2 _
  · try dsimp only at h1 h2
    have off : ∀ n, n ≠ m → c ∈ gp n → c ∉ a :: as := fun n hn hc z => by
      by_cases hcb : c = b
      · rw [hcb] at hc
        exact hn (g3 _ _ b hc (by rw [eB]; simp))
      · have hc2 : c = a ∨ (c ∈ as ∧ c ≠ b) := (List.mem_cons.mp z).elim .inl fun z => .inr ⟨z, hcb⟩
        have := (g4 n c hc).2.1
        rw [hB1 c hc2] at this
        exact (inA c z).2.2.2.1 this
    split at h1
    · split at h2
      · omega
      · split at h2
        · cases h2
        · exact absurd h1 (off n' (by assumption) h2)
    · split at h1
      · cases h1
      · split at h2
        · exact absurd h2 (off n (by assumption) h1)
        · split at h2
          · cases h2
          · exact g3 _ _ c h1 h2
  · try dsimp only at h1
    split at h1
    · obtain ⟨u1, u2, u3, u4⟩ := inA c h1
      by_cases hcb : c = b
      · rw [hcb]
        rw [hcb] at u2
        exact ⟨bb1, u2, bb3, bb4.1⟩
      · have hc2 : c = a ∨ (c ∈ as ∧ c ≠ b) := (List.mem_cons.mp h1).elim .inl fun z => .inr ⟨z, hcb⟩
        refine ⟨gfr c hc2, u2, u3, ?_⟩
        cases eo : H1 c with
        | none => exact absurd eo u4.1
        | some o => rw [keep c hc2 o eo]; simp
    · split at h1
      · cases h1
      · obtain ⟨u1, u2, u3, u4⟩ := g4 n c h1
        refine ⟨u1, ?_, u3, u4.1⟩
        cases eb : B c with
        | none => rfl
        | some o =>
          rw [hB3 c (by rw [eb]; simp), eb] at u2
          cases u2
theorem qb_take {i m : Nat} {y : Str} {ek ed : Expr} {S : Stmt} {pos1 pos2 dpos : Pos} {rest : List Stmt} {tk : TE} {pk : PX PV} {tS u : TS} {q0 q : PSt} (hK : X.K = K) (hN : X.N.Nodup) (hi : X.N[m]? = some y) (hx : Loc X.env.scope y) (hu : X.A.units + 1 < cLine)
    (hd : PE X ed (tVar i)) (hk : QX rS K PO X ek tk pk) (hsl : NoSl ek) (hS : QS K PO W X S tS q0) (hr : QB K PO W X rest u q)
    (hs1 : swapsWith (.Subscript ed ek dpos) (some (.Name y pos1)) pos2.line X.env = pure false := by rfl)
    (hf : X.fn y = true ∨ X.env.scope.names.lookup y = some .local := by first | exact .inl rfl | exact .inr rfl | assumption) :
    QB K PO W X (.Assign [.Name y pos1] (.Subscript ed ek dpos) pos2 :: S :: rest) (tSeq (tAsg (tDGet (tVar i) tk) (gName m)) (tSeq tS u)) (pSeq (pTake i m pk q0) q) := by
  subst hK
  refine ⟨pss_cons (ps_set hN hi hx (pe_dget hu hd hk.pe hsl) hs1 hf) (pss_cons hS.pe hr.pe), ?_⟩
  exact fun {B G0 G H pl σ ρ D P} r e hp => (ss_seq (ss_take hk.sd hS.sd) hr.sd) r e hp
/-! ### the walk -/
variable {ρ : En} {kvs : List (List Key × List PV)} {ds es : List PV} {d y : PV} {k : List Key} {i m : Nat} {P : PEnds} {pk : PX PV} {q : PSt}
theorem u_dnewE {post : Vl → Prop} (h : post (.oE [])) : pDnewE ρ post := h
def dinEQ (n : Bool) (i : Nat) (ρ : En) (post : PV → Prop) (y : PV) : Prop := ∃ kvs es k, ρ[i]? = some (some (.oE kvs)) ∧ y = .tup es ∧ keysOf es = some k ∧ post (.bl (if n then !(lookD kvs k).isSome else (lookD kvs k).isSome))
theorem u_dinE {n : Bool} {post : PV → Prop} (h : pk ρ fun y => dinEQ n i ρ post y) : pDinE n i pk ρ post := h
theorem u_dinEQ {n : Bool} {post : PV → Prop} (h1 : ρ[i]? = some (some (.oE kvs))) (h2 : keysOf es = some k) (h : post (.bl (if n then !(lookD kvs k).isSome else (lookD kvs k).isSome))) : dinEQ n i ρ post (.tup es) := ⟨kvs, es, k, h1, rfl, h2, h⟩
def dputEQ (i : Nat) (pk : PX PV) (P : PEnds) (vl : Vl) (ρ : En) : Prop := ∃ kvs d, vl = .ol d ∧ ρ[i]? = some (some (.oE kvs)) ∧ pk ρ fun y => ∃ es k, y = .tup es ∧ keysOf es = some k ∧ lookD kvs k = none ∧ (kvs.map (·.1)).Nodup ∧ kvs.length < 16777216 ∧ P.nx (ρ.set i (some (.oE (kvs ++ [(k, d)]))))
def dputEK (i : Nat) (kvs : List (List Key × List PV)) (ds : List PV) (ρ : En) (P : PEnds) (y : PV) : Prop := ∃ es k, y = .tup es ∧ keysOf es = some k ∧ lookD kvs k = none ∧ (kvs.map (·.1)).Nodup ∧ kvs.length < 16777216 ∧ P.nx (ρ.set i (some (.oE (kvs ++ [(k, ds)]))))
theorem u_dputE {p : En → (Vl → En → Prop) → Prop} (h1 : ρ[i]? = some (some (.oE kvs))) (h : p ρ fun vl ρ' => dputEQ i pk P vl ρ') : pDputE i pk p P ρ := ⟨⟨kvs, h1⟩, h⟩
theorem u_dputEQ (h1 : ρ[i]? = some (some (.oE kvs))) (h : pk ρ fun y => dputEK i kvs ds ρ P y) : dputEQ i pk P (.ol ds) ρ := ⟨kvs, ds, rfl, h1, h⟩
theorem u_dputEK (h1 : keysOf es = some k) (h2 : lookD kvs k = none) (h3 : (kvs.map (·.1)).Nodup) (h4 : kvs.length < 16777216) (h : P.nx (ρ.set i (some (.oE (kvs ++ [(k, ds)]))))) : dputEK i kvs ds ρ P (.tup es) := ⟨es, k, rfl, h1, h2, h3, h4, h⟩
def takeK (i m : Nat) (kvs : List (List Key × List PV)) (q : PSt) (ρ : En) (P : PEnds) (y : PV) : Prop := ∃ es k ds, y = .tup es ∧ keysOf es = some k ∧ lookD kvs k = some ds ∧
  ∀ a b, q { nx := fun ρ' => ∃ ds', ρ'[i]? = some (some (.sh (.obj a))) ∧ ρ'[m]? = some (some (.«at» (.obj b) b ds')) ∧ P.nx ((ρ'.set m none).set i (some (.oE (putD kvs k ds')))), rt := fun _ => False, bk := fun _ => False, ct := fun _ => False } ((ρ.set i (some (.sh (.obj a)))).set m (some (.«at» (.obj b) b ds)))
theorem u_take (h1 : ρ[i]? = some (some (.oE kvs))) (h2 : m < ρ.length) (h3 : i ≠ m) (h : pk ρ fun y => takeK i m kvs q ρ P y) : pTake i m pk q P ρ := by
  refine ⟨⟨kvs, h1⟩, h2, h3, ?_⟩
  have e : (fun y => takeK i m kvs q ρ P y) = fun y => ∃ kvs es k ds, ρ[i]? = some (some (.oE kvs)) ∧ y = .tup es ∧ keysOf es = some k ∧ lookD kvs k = some ds ∧
      ∀ a b, q { nx := fun ρ' => ∃ ds', ρ'[i]? = some (some (.sh (.obj a))) ∧ ρ'[m]? = some (some (.«at» (.obj b) b ds')) ∧ P.nx ((ρ'.set m none).set i (some (.oE (putD kvs k ds')))), rt := fun _ => False, bk := fun _ => False, ct := fun _ => False } ((ρ.set i (some (.sh (.obj a)))).set m (some (.«at» (.obj b) b ds))) := by
    funext y
    refine propext ⟨fun ⟨es, k, ds, a, b, c, d⟩ => ⟨kvs, es, k, ds, h1, a, b, c, d⟩, fun ⟨kvs', es, k, ds, a0, a, b, c, d⟩ => ?_⟩
    rw [h1] at a0
    cases a0
    exact ⟨es, k, ds, a, b, c, d⟩
  rw [e] at h
  exact h
theorem u_takeK (h1 : keysOf es = some k) (h2 : lookD kvs k = some ds) (h : ∀ a b, q { nx := fun ρ' => ∃ ds', ρ'[i]? = some (some (.sh (.obj a))) ∧ ρ'[m]? = some (some (.«at» (.obj b) b ds')) ∧ P.nx ((ρ'.set m none).set i (some (.oE (putD kvs k ds')))), rt := fun _ => False, bk := fun _ => False, ct := fun _ => False } ((ρ.set i (some (.sh (.obj a)))).set m (some (.«at» (.obj b) b ds)))) : takeK i m kvs q ρ P (.tup es) := ⟨es, k, ds, rfl, h1, h2, h⟩
end
/-! ## arguments that may change what names own; classes of objects -/
section
variable {K : PySem.W.Frag} {PO : POk} {X : Cx} {W : WX}
abbrev PXs := En → (List PV → En → Prop) → Prop
def SAX (K : PySem.W.Frag) (PO : POk) (t : TA) (p : PXs) : Prop :=
  ∀ {B G0 G H : Hp} {pl : PL} {σ : L2.St} {ρ : En} {Q : List V → Hp → Prop} {post : List PV → En → Prop}, Rel K PO B G0 G H pl σ ρ → p ρ post → (∀ us ds ρ' G' H' pl', Same G G' → plLe pl pl' → Rel K PO B G0 G' H' pl' σ ρ' → Rl K pl' G' ds us → post ds ρ' → Q us H') → t σ H Q
structure QAX (K : PySem.W.Frag) (PO : POk) (X : Cx) (e : List Expr) (t : TA) (p : PXs) : Prop where
  pe : PA X e t
  sd : SAX K PO t p
def pNilX : PXs := fun ρ post => post [] ρ
theorem qax_nil : QAX K PO X [] tNil pNilX := ⟨pa_nil, fun {B G0 G H pl σ ρ Q post} r hp hq => hq [] [] ρ G H pl (Same.refl _) (plLe.refl _) r Rl.nil hp⟩
def pConsX (p : PX PV) (q : PXs) : PXs := fun ρ post => p ρ fun d => q ρ fun ds ρ' => post (d :: ds) ρ'
theorem qax_cons {e : Expr} {es : List Expr} {te : TE} {t : TA} {p : PX PV} {q : PXs} (ha : QX rS K PO X e te p) (hr : QAX K PO X es t q) (hs : starEach (e :: es) X.env = (false, eval e X.env) :: starEach es X.env := by rfl) : QAX K PO X (e :: es) (tCons te t) (pConsX p q) :=
  ⟨pa_cons ha.pe hr.pe hs, fun {B G0 G H pl σ ρ Q post} r hp hq => ha.sd r hp fun v d G1 H1 pl1 s1 hd hp1 => hr.sd (r.step s1) hp1 fun us ds ρ' G2 H2 pl2 sg le r2 hds hp2 => hq (v :: us) (d :: ds) ρ' G2 H2 pl2 (s1.g.trans sg) (s1.le.trans le) r2 (Rl.cons (Rs.mono sg le _ _ hd) hds) hp2⟩
def pConsMX (p : En → (Vl → En → Prop) → Prop) (q : PXs) : PXs := fun ρ post => p ρ fun vl ρ1 => ∃ d, vl = .sh d ∧ q ρ1 fun ds ρ' => post (d :: ds) ρ'
theorem qax_consM {e : Expr} {es : List Expr} {te : TE} {t : TA} {p : En → (Vl → En → Prop) → Prop} {q : PXs} (ha : QM K PO X e te p) (hr : QAX K PO X es t q) (hs : starEach (e :: es) X.env = (false, eval e X.env) :: starEach es X.env := by rfl) : QAX K PO X (e :: es) (tCons te t) (pConsMX p q) :=
  ⟨pa_cons ha.pe hr.pe hs, fun {B G0 G H pl σ ρ Q post} r hp hq => ha.sd r hp fun v vl ρ1 G1 H1 pl1 s le r1 hp1 => by
    obtain ⟨d, rfl, hp1⟩ := hp1
    obtain ⟨v1, A, e1, hv, _⟩ := r1.var (i := ρ1.length) (vl := .sh d) (by simp)
    have hl := r1.lenT
    rw [List.getElem?_append_right (by omega), hl, Nat.sub_self] at e1
    cases e1
    exact hr.sd r1.drop hp1 fun us ds ρ' G2 H2 pl2 sg le2 r2 hds hp2 => hq (v :: us) (d :: ds) ρ' G2 H2 pl2 (s.trans sg) (le.trans le2) r2 (Rl.cons (Rs.mono sg le2 _ _ hv.2) hds) hp2⟩
def pCallOX (i : Nat) (C : Addr) (sp : SpO) (p : PXs) : En → (Vl → En → Prop) → Prop := fun ρ post => ∃ a dx fs, ρ[i]? = some (some (.ob (.obj a) a dx C fs)) ∧ p ρ fun ds ρ' => ∃ fs', ρ'[i]? = some (some (.ob (.obj a) a dx C fs')) ∧ sp ds fs' fun d fs2 => post (.sh d) (ρ'.set i (some (.ob (.obj a) a dx C fs2)))
theorem sm_callOX {i : Nat} {C : Addr} {sp : SpO} {t : TA} {p : PXs} (h : SAX K PO t p) : SM K PO (tCall (hSpO K PO C sp) [] E0 (tCons (tVar i) t)) (pCallOX i C sp p) := fun {B G0 G H pl σ ρ Q post} r hp hq => by
  obtain ⟨a, dx, fs, e, hp⟩ := hp
  obtain ⟨v, A, ev, ⟨xs0, rfl, q0, _⟩, _⟩ := r.var e
  rw [rs_obj q0] at ev
  refine ⟨.ref a, ev, h r hp fun us ds ρ' G1 H1 pl1 s1 le1 r1 hds hp1 => ?_⟩
  obtain ⟨fs', e', hp1⟩ := hp1
  obtain ⟨v', A', ev', hR, nd, n⟩ := r1.var e'
  obtain ⟨xs, rfl, k0, k1, k2, k3⟩ := hR
  obtain ⟨n1, n2, n3, n4⟩ := n a (by simp)
  obtain ⟨o1, o2, o3, o4⟩ := n dx (by simp)
  have hne : dx ≠ a := fun z => by rw [z] at nd; simp at nd
  show hSpO K PO C sp ((.ref a :: us) ++ []) H1 Q E0
  rw [List.append_nil]
  exact ⟨G1, pl1, ds, fs', a, dx, us, xs, _, rfl, r1.ok, hds, k1, k2, hne, ⟨n1, o1⟩, ⟨n3, o3⟩, k3, hp1, fun d fs2 v G2 H2 hpost s2 r2 => hq v (.sh d) _ G2 H2 pl1 (s1.trans s2) le1 (r1.behindO e' s2 r2) hpost⟩
theorem qm_cOX {i k j : Nat} {x xo : Str} {C : Addr} {sp : SpO} {p0 pos po : Pos} {es : List Expr} {t : TA} {p : PXs} (hK : X.K = K) (c : CalO X.prog X.w X.K PO X.mg X.base k x C sp) (hr : Room j X.A) (hk : k ≤ j) (hg : Gl X x) (ho : PE X (.Name xo po) (tVar i)) (ha : QAX K PO X es t p)
    (hdb : (x == ("__debug__" : Str)) = false := by decide) (he : starEach (.Name xo po :: es) X.env = (false, eval (.Name xo po) X.env) :: starEach es X.env := by rfl) (hpl : (backTo pos (starEach es X.env)).any (·.1) = false := by rfl) :
    QM K PO X (.Call (.Name x p0) (.Name xo po :: es) [] pos) (tCall (hSpO K PO C sp) [] E0 (tCons (tVar i) t)) (pCallOX i C sp p) := by
  subst hK
  exact ⟨pe_c c hr hk hg (pa_cons ho ha.pe he) hdb he hpl, sm_callOX ha.sd⟩
/-! ### a class, by what stands in the written part -/
structure ObC (K : PySem.W.Frag) (mg : Str → Option Value) (x : Str) (C : Addr) (fs : List Str) : Prop where
  cl : Cls K C
  no : ∀ f ∈ fs, NoAttr K C f
  gC : mg x = some (.ref C)
structure MAt (K : PySem.W.Frag) (C : Addr) (m qual : Str) (st : Stmt) : Prop where
  ex : ∃ (f : Addr) (fd : FuncData), Meth K C m f ∧ Fun K m qual st f fd
structure IAt (K : PySem.W.Frag) (C : Addr) (qual : Str) (st : Stmt) : Prop where
  ex : ∃ (f : Addr) (fd : FuncData), Mk K C f ∧ Fun K "__init__" qual st f fd
/-! ### the walk -/
variable {ρ ρ' : En} {i : Nat} {C a dx : Addr} {fs : List (Str × PV)} {d : PV} {ds : List PV}
def callOXQ (i : Nat) (C : Addr) (sp : SpO) (a dx : Addr) (post : Vl → En → Prop) (ds : List PV) (ρ' : En) : Prop := ∃ fs', ρ'[i]? = some (some (.ob (.obj a) a dx C fs')) ∧ sp ds fs' fun d fs2 => post (.sh d) (ρ'.set i (some (.ob (.obj a) a dx C fs2)))
theorem u_callOX {sp : SpO} {p : PXs} {post : Vl → En → Prop} (h1 : ρ[i]? = some (some (.ob (.obj a) a dx C fs))) (h : p ρ (callOXQ i C sp a dx post)) : pCallOX i C sp p ρ post := ⟨a, dx, fs, h1, h⟩
theorem u_callOXQ {sp : SpO} {post : Vl → En → Prop} (h1 : ρ'[i]? = some (some (.ob (.obj a) a dx C fs))) (h : sp ds fs fun d fs2 => post (.sh d) (ρ'.set i (some (.ob (.obj a) a dx C fs2)))) : callOXQ i C sp a dx post ds ρ' := ⟨fs, h1, h⟩
theorem u_nilX {post : List PV → En → Prop} (h : post [] ρ) : pNilX ρ post := h
theorem u_consX {p : PX PV} {q : PXs} {post : List PV → En → Prop} (h : p ρ fun d => q ρ fun ds ρ' => post (d :: ds) ρ') : pConsX p q ρ post := h
def consMQ (q : PXs) (post : List PV → En → Prop) (vl : Vl) (ρ1 : En) : Prop := ∃ d, vl = .sh d ∧ q ρ1 fun ds ρ' => post (d :: ds) ρ'
theorem u_consMX {p : En → (Vl → En → Prop) → Prop} {q : PXs} {post : List PV → En → Prop} (h : p ρ (consMQ q post)) : pConsMX p q ρ post := h
theorem u_consMQ {q : PXs} {post : List PV → En → Prop} (h : q ρ fun ds ρ' => post (d :: ds) ρ') : consMQ q post (.sh d) ρ := ⟨d, rfl, h⟩
end
section
open PySem PySem.W PySem.Calls PyProof.Rows PyProof.V PySem.Spec L2
/-! ## a < b, both tuples of texts -/
def lxS : List Str → List Str → Bool
  | [], [] => false
  | [], _ :: _ => true
  | _ :: _, [] => false
  | a :: as, b :: bs => if a = b then lxS as bs else decide (a.cps.toList < b.cps.toList)
section
open PySem.SeqAt
open PySem.AutoSeq1 (wpAny_loadPart')
open PySem.MeetsSeq PySem.MeetsSeq2 PySem.MeetsSeq3
theorem eqAt_strE (A : Around) (s : Shared) (a : Str) (t : Tok) (c : Str) (u : Tok) : ∃ e, SeqAt.EqAt A s (.str a t) (.str c u) e ∧ (e = true ↔ a = c) :=
  ⟨(a == c), SeqAt.EqAt.str_str a t c u, by simp⟩
theorem tuple_lt_strs (l b : Addr) (items items2 : Array Value) (n n2 : Nat) (dd dd2 : Option Addr) (sl sl2 : Array (Option Value)) (ns ms : List Str) (hi : StrsAre items.toList ns) (hj : StrsAre items2.toList ms) :
    Meets (Builtin.«tuple.__lt__» ⟨[.ref l, .ref b], []⟩)
      (fun _ R s => s.heap.get? l = some { cls := .type "tuple", dict := dd, data := .seq items n, slots := sl } ∧ s.heap.get? b = some { cls := .type "tuple", dict := dd2, data := .seq items2 n2, slots := sl2 } ∧
        R (.ok (.ret (.bool (lxS ns ms)))) s) :=
  .of_wp fun prog w A R s h => by
    obtain ⟨hp, g, d, tk, os⟩ := s; obtain ⟨hl, hb, h⟩ := h
    have f2 := AutoSeq1.sub_tuple_tuple
    have z1 : items.size = ns.length := by rw [← StrsAre.len_eq hi]; simp
    have z2 : items2.size = ms.length := by rw [← StrsAre.len_eq hj]; simp
    wp_walk using wpAny_loadPart' hl, wpAny_loadPart' hb, wpAny_forIn_list _ (fun rest b s' => b.1 = none ∧ s' = ⟨hp, g, d, tk, os⟩ ∧ ∃ (vs ws : List Value) (ns' ms' : List Str), rest = vs.zip ws ∧
      StrsAre vs ns' ∧ StrsAre ws ms' ∧ ns'.length + items2.size = ms'.length + items.size ∧ R (.ok (.ret (.bool (lxS ns' ms')))) ⟨hp, g, d, tk, os⟩) _
    case turn =>
      rintro ⟨y, x⟩ rest b s' ⟨hb', rfl, vs, ws, ns', ms', hz, hvi, hwi, hlen, hR⟩
      cases hvi with
      | nil => rw [List.zip_nil_left] at hz; cases hz
      | cons a t hvi' =>
        cases hwi with
        | nil => rw [List.zip_nil_right] at hz; cases hz
        | cons c u hwi' =>
          rw [List.zip_cons_cons] at hz
          injection hz with hyx hrest
          injection hyx with hy hx
          subst hy hx
          unfold lxS at hR
          simp only [List.length_cons] at hlen
          obtain ⟨e, he, hiff⟩ := eqAt_strE A.in1 ⟨hp, g, d, tk, os⟩ a t c u
          refine wpAny_bind (he prog w _ _ ?_)
          cases e with
          | true =>
            rw [if_pos (hiff.mp rfl)] at hR
            wp_walk
            exact ⟨rfl, rfl, _, _, _, _, hrest, hvi', hwi', by omega, hR⟩
          | false =>
            rw [if_neg (fun q => absurd (hiff.mpr q) Bool.false_ne_true)] at hR
            have hri := DT.rcLt_str A.in1 ⟨hp, g, d, tk, os⟩ a t c u prog w
            wp_walk using hri
            exact ⟨_, rfl, by simpa using hR⟩
    case fin =>
      rintro ⟨b1, b2⟩ s' ⟨hb', rfl, vs, ws, ns', ms', hz, hvi, hwi, hlen, hR⟩
      simp only at hb'
      subst hb'
      have hv : lxS ns' ms' = decide (items.size < items2.size) := by
        cases hvi with
        | nil =>
          cases hwi with
          | nil =>
            simp only [List.length_nil] at hlen
            exact (decide_eq_false (by omega)).symm
          | cons c u hw =>
            simp only [List.length_nil, List.length_cons] at hlen
            exact (decide_eq_true (by omega)).symm
        | cons a t hv =>
          cases hwi with
          | nil =>
            simp only [List.length_nil, List.length_cons] at hlen
            exact (decide_eq_false (by omega)).symm
          | cons c u hw =>
            rw [List.zip_cons_cons] at hz
            cases hz
      rw [hv] at hR
      wp_walk
      exact ⟨_, rfl, by simpa [Builtin.Tuple.tupleCompareSizes] using hR⟩
    case h =>
      exact ⟨rfl, rfl, items.toList, items2.toList, ns, ms, rfl, hi, hj, by omega, h⟩
end
section
variable {prog : Program} {w : World} {A : Around} {E : Value → Shared → Prop} {s : Shared}
theorem lt_tupStrs {l b : Addr} {items items2 : Array Value} {ns ms : List Str} {Q : Value → Shared → Prop} (hl : IsTup s.heap l items) (hb : IsTup s.heap b items2) (hi : StrsAre items.toList ns) (hj : StrsAre items2.toList ms)
    (hu : A.units < cLine) (h : Q (.bool (lxS ns ms)) s) : wpAny (model prog w) A (compareOp .Lt (.ref l) (.ref b)) Q E s := by
  obtain ⟨⟨cls, dd, data, sl⟩, ho, hc, n, hd⟩ := id hl
  obtain ⟨⟨cls2, dd2, data2, sl2⟩, ho2, hc2, n2, hd2⟩ := id hb
  simp only at hc hd hc2 hd2
  subst hc hd hc2 hd2
  exact richCompare_meets_room (op := .Lt) ⟨_, ho, rfl⟩ ⟨_, ho2, rfl⟩ PySem.F.slot_tuple_lt PySem.F.entry_tuple_lt (PySem.F.args_tuple_lt_2 _ _) (tuple_lt_strs l b items items2 n n2 dd dd2 sl sl2 ns ms hi hj)
    ⟨ho, ho2, show Value.bool (lxS ns ms) ≠ Value.notImplemented ∧ Q (.bool (lxS ns ms)) s from ⟨(fun x => nomatch x), h⟩⟩ hu
end
section
variable {K : PySem.W.Frag} {PO : POk} {X : Cx}
def rLtTS (K : PySem.W.Frag) : R2 := fun x y H Q => ∃ (a b : Addr) (ns ms : List Str), x = .ref a ∧ y = .ref b ∧ SqT K H a (ns.map V.str) ∧ SqT K H b (ms.map V.str) ∧ Q (.bl (lxS ns ms)) H
theorem op_ltTS (hu : X.A.units < cLine) : OpR X (compareOp .Lt) (rLtTS X.K) := by
  intro pins s σ H x y v u Q I rx ry h
  obtain ⟨a, b, ns, ms, rfl, rfl, ha, hb, q⟩ := h
  cases rx
  cases ry
  obtain ⟨its, r1, p1, _⟩ := I.tuple ha
  obtain ⟨its2, r2, p2, _⟩ := I.tuple hb
  exact lt_tupStrs p1 p2 (by simpa using strsAre_of r1) (by simpa using strsAre_of r2) hu ⟨.bl (lxS ns ms), H, I, rfl, q⟩
def fLtTS : PV → PV → (PV → Prop) → Prop := fun x y post => ∃ as bs : List Txt, x = .tup (as.map .str) ∧ y = .tup (bs.map .str) ∧ post (.bl (lxS (as.map S) (bs.map S)))
theorem s2_ltTS : S2 rS rS rS K PO (rLtTS K) fLtTS := fun {G H pl x y d e Q post} o hx hy hf hq => by
  obtain ⟨as, bs, rfl, rfl, hp⟩ := hf
  obtain ⟨a, xs, rfl, h1, h2, _⟩ := rs_tup (K := K) (pl := pl) (G := G) hx
  obtain ⟨b, ys, rfl, k1, k2, _⟩ := rs_tup (K := K) (pl := pl) (G := G) hy
  rw [rl_str h2] at h1
  rw [rl_str k2] at k1
  refine ⟨a, b, as.map S, bs.map S, rfl, rfl, ?_, ?_, hq _ (.bl _) G H pl (Stp.refl o) (show Rs K pl G _ _ from Rs.bl) hp⟩
  · rw [List.map_map]; exact o.sub.sqT h1
  · rw [List.map_map]; exact o.sub.sqT k1
theorem u_ltTS {as bs : List Txt} {post : PV → Prop} (h : post (.bl (lxS (as.map S) (bs.map S)))) : fLtTS (.tup (as.map .str)) (.tup (bs.map .str)) post := ⟨as, bs, rfl, rfl, h⟩
end
end
/-! ## joins: pieces, pairs, counts (shared by the laws about joins) -/
abbrev Pr := Txt × Txt
abbrev Fd := List (Pr × Int)
/-! ### dicts through an injective key -/
section
variable {κ κ' α β : Type} [DecidableEq κ] [DecidableEq κ'] {g : κ → κ'} {h : α → β}
theorem look_map (gi : ∀ a b, g a = g b → a = b) (k : κ) : ∀ f : List (κ × α), lookD (f.map fun z => (g z.1, h z.2)) (g k) = (lookD f k).map h
  | [] => rfl
  | (k', v) :: f => by
    rw [List.map_cons, look_cons, look_cons, look_map gi k f]
    by_cases e : k' = k
    · rw [if_pos e, if_pos (by rw [e])]; rfl
    · rw [if_neg e, if_neg fun q => e (gi _ _ q)]
theorem put_map (gi : ∀ a b, g a = g b → a = b) (k : κ) (v : α) : ∀ f : List (κ × α), putD (f.map fun z => (g z.1, h z.2)) (g k) (h v) = (putD f k v).map fun z => (g z.1, h z.2)
  | [] => rfl
  | (k', u) :: f => by
    rw [List.map_cons]
    unfold putD
    by_cases e : k' = k
    · rw [if_pos (by rw [e]), if_pos e]; rfl
    · rw [if_neg fun q => e (gi _ _ q), if_neg e, put_map gi k v f]; rfl
end
section
variable {κ α : Type} [DecidableEq κ]
theorem look_some {k : κ} : ∀ {f : List (κ × α)}, k ∈ f.map (·.1) → ∃ v, lookD f k = some v
  | [], h => by simp at h
  | (k', u) :: f, h => by
    rw [look_cons]
    by_cases e : k' = k
    · rw [if_pos e]; exact ⟨u, rfl⟩
    · rw [if_neg e]
      rw [List.map_cons, List.mem_cons] at h
      exact look_some (h.resolve_left fun q => e q.symm)
theorem look_isSome (k : κ) : ∀ f : List (κ × α), (lookD f k).isSome = decide (k ∈ f.map (·.1))
  | [] => rfl
  | (k', u) :: f => by
    rw [look_cons]
    by_cases e : k' = k
    · rw [if_pos e]; simp [e]
    · rw [if_neg e, look_isSome k f]
      have : k ≠ k' := fun q => e q.symm
      simp [this]
theorem nd_map {γ δ : Type} {g : γ → δ} (gi : ∀ a b, g a = g b → a = b) {l : List γ} (h : l.Nodup) : (l.map g).Nodup := by
  rw [List.nodup_iff_pairwise_ne] at *
  rw [List.pairwise_map]
  exact h.imp fun hne q => hne (gi _ _ q)
end
def kk (p : Pr) : List Key := [.inr (S p.1), .inr (S p.2)]
theorem kk_inj (p q : Pr) (h : kk p = kk q) : p = q := by
  obtain ⟨a, b⟩ := p
  obtain ⟨c, d⟩ := q
  unfold kk at h
  have h1 : S a = S c := Sum.inr.inj (List.cons.inj h).1
  have h2 : S b = S d := Sum.inr.inj (List.cons.inj (List.cons.inj h).2).1
  rw [S_inj.mp h1, S_inj.mp h2]
abbrev kvF (f : Fd) : List (List Key × PV) := f.map fun z => (kk z.1, PV.int z.2)
abbrev pP (p : Pr) : PV := .tup [.str p.1, .str p.2]
theorem look_kvF (f : Fd) (p : Pr) : lookD (kvF f) (kk p) = (lookD f p).map PV.int := look_map kk_inj p f
theorem put_kvF (f : Fd) (p : Pr) (n : Int) : putD (kvF f) (kk p) (.int n) = kvF (putD f p n) := put_map kk_inj p n f
theorem keys_kvF (f : Fd) : (kvF f).map (·.1) = (f.map (·.1)).map kk := by rw [List.map_map, List.map_map]; rfl
theorem kvF_nd {f : Fd} (h : (f.map (·.1)).Nodup) : ((kvF f).map (·.1)).Nodup := by rw [keys_kvF]; exact nd_map kk_inj h
/-! ### texts as keys -/
def kt (t : Txt) : Key := .inr (S t)
theorem kt_inj (a b : Txt) (h : kt a = kt b) : a = b := S_inj.mp (Sum.inr.inj h)
abbrev kvT (tk : List Txt) (d : PV) : List (Key × PV) := tk.map fun t => (kt t, d)
theorem keys_kvT (tk : List Txt) (d : PV) : (kvT tk d).map (·.1) = tk.map kt := by rw [List.map_map]; rfl
theorem look_kvT (tk : List Txt) (d : PV) (t : Txt) : lookD (kvT tk d) (kt t) = if t ∈ tk then some d else none := by
  induction tk with
  | nil => rfl
  | cons a tk ih =>
    show lookD ((kt a, d) :: kvT tk d) (kt t) = _
    rw [look_cons, ih]
    by_cases e : a = t
    · rw [if_pos (by rw [e]), if_pos (by simp [e])]
    · rw [if_neg fun q => e (kt_inj _ _ q)]
      have : t ≠ a := fun q => e q.symm
      by_cases m : t ∈ tk
      · rw [if_pos m, if_pos (List.mem_cons_of_mem _ m)]
      · rw [if_neg m, if_neg (by rw [List.mem_cons]; exact fun q => q.elim this m)]
theorem look_kvT_is (tk : List Txt) (d : PV) (t : Txt) : (lookD (kvT tk d) (kt t)).isSome = decide (t ∈ tk) := by
  rw [look_kvT]
  by_cases m : t ∈ tk
  · rw [if_pos m, decide_eq_true m]; rfl
  · rw [if_neg m, decide_eq_false m]; rfl
def addT (tk : List Txt) (t : Txt) : List Txt := if t ∈ tk then tk else tk ++ [t]
theorem put_kvT (d : PV) (t : Txt) : ∀ tk : List Txt, putD (kvT tk d) (kt t) d = kvT (addT tk t) d
  | [] => rfl
  | a :: tk => by
    show putD ((kt a, d) :: kvT tk d) (kt t) d = _
    unfold putD
    by_cases e : a = t
    · rw [if_pos (by rw [e])]
      unfold addT
      rw [if_pos (by simp [e])]; rfl
    · rw [if_neg fun q => e (kt_inj _ _ q), put_kvT d t tk]
      have : t ≠ a := fun q => e q.symm
      unfold addT
      by_cases m : t ∈ tk
      · rw [if_pos m, if_pos (List.mem_cons_of_mem _ m)]; rfl
      · rw [if_neg m, if_neg (by rw [List.mem_cons]; exact fun q => q.elim this m)]; rfl
theorem addT_nd {tk : List Txt} {t : Txt} (h : tk.Nodup) : (addT tk t).Nodup := by
  unfold addT
  split
  · exact h
  · rename_i m
    rw [List.nodup_append]
    exact ⟨h, by simp, fun a ha b hb z => m (by rw [List.mem_singleton.mp hb] at z; rw [← z]; exact ha)⟩
theorem addT_len (tk : List Txt) (t : Txt) : (addT tk t).length ≤ tk.length + 1 := by
  unfold addT
  split
  · omega
  · simp
theorem kvT_nd {tk : List Txt} {d : PV} (h : tk.Nodup) : ((kvT tk d).map (·.1)).Nodup := by rw [keys_kvT]; exact nd_map kt_inj h
/-! ### the order of pairs -/
def lek (p q : Pr) : Bool := !lexLt itemOrd [.inr q.1, .inr q.2] [.inr p.1, .inr p.2]
theorem leK_kk (p q : Pr) : leK (kk p) (kk q) ↔ lek p q = true := by
  have e : ∀ p : Pr, (kk p).map kI = [.inr p.1, .inr p.2] := fun p => by simp [kk, kI, S]
  unfold leK lek
  rw [e, e]
  cases lexLt itemOrd [Sum.inr q.1, Sum.inr q.2] [Sum.inr p.1, Sum.inr p.2] <;> simp
theorem lek_trans {p q r : Pr} (h1 : lek p q = true) (h2 : lek q r = true) : lek p r = true := by
  unfold lek at *
  cases e : lexLt itemOrd [Sum.inr r.1, Sum.inr r.2] [Sum.inr p.1, Sum.inr p.2] with
  | false => rfl
  | true =>
    rcases lex_negTrans (O := itemOrd) _ [Sum.inr q.1, Sum.inr q.2] _ e with h | h
    · rw [h] at h2; cases h2
    · rw [h] at h1; cases h1
theorem lek_total (p q : Pr) : lek p q = true ∨ lek q p = true := by
  unfold lek
  cases e : lexLt itemOrd [Sum.inr q.1, Sum.inr q.2] [Sum.inr p.1, Sum.inr p.2] with
  | false => exact .inl rfl
  | true =>
    cases e2 : lexLt itemOrd [Sum.inr p.1, Sum.inr p.2] [Sum.inr q.1, Sum.inr q.2] with
    | false => exact .inr rfl
    | true =>
      have := lex_trans (O := itemOrd) _ _ _ e e2
      rw [lex_irrefl] at this
      cases this
theorem lek_anti {p q : Pr} (h1 : lek p q = true) (h2 : lek q p = true) : p = q := by
  unfold lek at *
  have := lex_total (O := itemOrd) [Sum.inr p.1, Sum.inr p.2] [Sum.inr q.1, Sum.inr q.2] (by simpa using h2) (by simpa using h1)
  obtain ⟨a, b⟩ := p
  obtain ⟨c, d⟩ := q
  simp at this
  obtain ⟨rfl, rfl⟩ := this
  rfl
def insP (p : Pr) : List Pr → List Pr
  | [] => [p]
  | q :: r => if lek p q then p :: q :: r else q :: insP p r
def srt : List Pr → List Pr
  | [] => []
  | p :: r => insP p (srt r)
theorem insP_perm (p : Pr) : ∀ l, (insP p l).Perm (p :: l)
  | [] => .refl _
  | q :: r => by
    unfold insP
    split
    · exact .refl _
    · exact ((insP_perm p r).cons q).trans (.swap _ _ _)
theorem srt_perm : ∀ l, (srt l).Perm l
  | [] => .refl _
  | p :: r => (insP_perm p _).trans ((srt_perm r).cons p)
theorem insP_sorted (p : Pr) : ∀ l : List Pr, l.Pairwise (fun a b => lek a b = true) → (insP p l).Pairwise fun a b => lek a b = true
  | [], _ => by simp [insP]
  | q :: r, h => by
    unfold insP
    split
    · rename_i e
      refine List.pairwise_cons.mpr ⟨fun a ha => ?_, h⟩
      rcases List.mem_cons.mp ha with rfl | ha
      · exact e
      · exact lek_trans e ((List.pairwise_cons.mp h).1 a ha)
    · rename_i e
      refine List.pairwise_cons.mpr ⟨fun a ha => ?_, insP_sorted p r (List.pairwise_cons.mp h).2⟩
      rcases List.mem_cons.mp ((insP_perm p r).mem_iff.mp ha) with rfl | ha
      · exact (lek_total q a).resolve_right e
      · exact (List.pairwise_cons.mp h).1 a ha
theorem srt_sorted : ∀ l : List Pr, (srt l).Pairwise fun a b => lek a b = true
  | [] => List.Pairwise.nil
  | p :: r => insP_sorted p _ (srt_sorted r)
theorem srt_uniq {l m : List Pr} (h1 : m.Perm l) (h2 : m.Pairwise fun a b => lek a b = true) : m = srt l :=
  List.Perm.eq_of_pairwise (le := fun a b => lek a b = true) (fun a b _ _ x y => lek_anti x y) h2 (srt_sorted l) (h1.trans (srt_perm l).symm)
/-- lists of keys that are pairs are lists of pairs -/
theorem kk_lift : ∀ (ys : List (List Key)) (l : List Pr), ys.Perm (l.map kk) → ∃ m : List Pr, ys = m.map kk ∧ m.Perm l := by
  intro ys l h
  obtain ⟨m, h1, h2⟩ := perm_lift kk h l rfl
  exact ⟨m, h2.symm, h1⟩
/-- sorted(found) -/
theorem u_sortF {f : Fd} {post : Vl → Prop} (hb : ∀ z ∈ f, z.1.1.length ≤ 16777216 ∧ z.1.2.length ≤ 16777216) (h : post (.ol ((srt (f.map (·.1))).map pP))) : fSortDT (kvF f) post := by
  refine ⟨fun _ => true, fun kv hkv => ?_, fun ys h1 h2 => ?_⟩
  · obtain ⟨z, hz, rfl⟩ := List.mem_map.mp hkv
    refine ⟨by simp [kk], ⟨rfl, rfl, trivial⟩, by simp [kk], fun x hx => ?_⟩
    obtain ⟨b1, b2⟩ := hb z hz
    simp only [kk, List.mem_cons, List.not_mem_nil, or_false] at hx
    rcases hx with hx | hx
    · cases Sum.inr.inj hx; simpa [S] using b1
    · cases Sum.inr.inj hx; simpa [S] using b2
  · rw [keys_kvF] at h1
    obtain ⟨m, rfl, hm⟩ := kk_lift ys _ h1
    have hs : m.Pairwise fun a b => lek a b = true := by
      rw [List.pairwise_map] at h2
      exact h2.imp fun q => (leK_kk _ _).mp q
    rw [srt_uniq hm hs, List.map_map]
    have : (tP ∘ kk) = pP := by
      funext p
      simp [tP, kk, kP, S]
    rw [this]
    exact h
/-! ### pieces -/
def jn (l r : Txt) : List Txt → List Txt
  | [] => []
  | [x] => [x]
  | x :: y :: t => if x = l ∧ y = r then (l ++ r) :: jn l r t else x :: jn l r (y :: t)
def prs (l : List Txt) : List Pr := l.zip l.tail
abbrev lP (l : List Txt) : PV := .lst (l.map .str)
theorem jn_mem {l r : Txt} : ∀ {p : List Txt} {x : Txt}, x ∈ jn l r p → x ∈ p ∨ x = l ++ r
  | [], x, h => by unfold jn at h; exact .inl h
  | [y], x, h => by unfold jn at h; exact .inl h
  | a :: b :: t, x, h => by
    unfold jn at h
    split at h
    · rcases List.mem_cons.mp h with rfl | h
      · exact .inr rfl
      · rcases jn_mem h with h | h
        · exact .inl (List.mem_cons_of_mem _ (List.mem_cons_of_mem _ h))
        · exact .inr h
    · rcases List.mem_cons.mp h with rfl | h
      · exact .inl List.mem_cons_self
      · rcases jn_mem h with h | h
        · exact .inl (List.mem_cons_of_mem _ h)
        · exact .inr h
theorem jn_flat {l r : Txt} : ∀ p : List Txt, (jn l r p).flatten = p.flatten
  | [] => by unfold jn; rfl
  | [y] => by unfold jn; rfl
  | a :: b :: t => by
    unfold jn
    split
    · rename_i e
      obtain ⟨rfl, rfl⟩ := e
      rw [List.flatten_cons, jn_flat t, List.flatten_cons, List.flatten_cons, List.append_assoc]
    · rw [List.flatten_cons, jn_flat (b :: t)]; rfl
theorem jn_len {l r : Txt} : ∀ p : List Txt, (jn l r p).length ≤ p.length
  | [] => by unfold jn; exact Nat.le_refl _
  | [y] => by unfold jn; exact Nat.le_refl _
  | a :: b :: t => by
    unfold jn
    split
    · have := jn_len (l := l) (r := r) t
      simp only [List.length_cons]; omega
    · have := jn_len (l := l) (r := r) (b :: t)
      simp only [List.length_cons] at this ⊢; omega
theorem mem_flat {p : List Txt} {x : Txt} (h : x ∈ p) : x.length ≤ p.flatten.length := by
  induction p with
  | nil => cases h
  | cons a p ih =>
    rw [List.flatten_cons, List.length_append]
    rcases List.mem_cons.mp h with rfl | h
    · omega
    · have := ih h; omega
theorem prs_mem {p : List Txt} {z : Pr} (h : z ∈ prs p) : ∃ i : Nat, p[i]? = some z.1 ∧ p[i + 1]? = some z.2 := by
  obtain ⟨i, hi⟩ := List.mem_iff_getElem?.mp h
  unfold prs at hi
  obtain ⟨h1, h2⟩ := List.getElem?_zip_eq_some.mp hi
  rw [List.getElem?_tail] at h2
  exact ⟨i, h1, h2⟩
theorem two_flat {p : List Txt} {i : Nat} {x y : Txt} (h1 : p[i]? = some x) (h2 : p[i + 1]? = some y) : x.length + y.length ≤ p.flatten.length := by
  induction p generalizing i with
  | nil => simp at h1
  | cons a p ih =>
    rw [List.flatten_cons, List.length_append]
    cases i with
    | zero =>
      cases h1
      have := mem_flat (List.mem_of_getElem? (by simpa using h2 : p[0]? = some y))
      omega
    | succ i => have := ih (i := i) (by simpa using h1) (by simpa using h2); omega
theorem prs_len {p : List Txt} {z : Pr} (h : z ∈ prs p) : z.1.length + z.2.length ≤ p.flatten.length := by
  obtain ⟨i, h1, h2⟩ := prs_mem h
  exact two_flat h1 h2
/-- joined at the place at -/
theorem jn_drop_eq {l r : Txt} {p : List Txt} {i : Nat} (h1 : p[i]? = some l) (h2 : p[i + 1]? = some r) : jn l r (p.drop i) = (l ++ r) :: jn l r (p.drop (i + 2)) := by
  have e1 : p.drop i = l :: r :: p.drop (i + 2) := by
    rw [List.drop_eq_getElem_cons (List.getElem?_eq_some_iff.mp h1).1, List.drop_eq_getElem_cons (List.getElem?_eq_some_iff.mp h2).1, (List.getElem?_eq_some_iff.mp h1).2, (List.getElem?_eq_some_iff.mp h2).2]
  rw [e1]
  conv => lhs; unfold jn
  rw [if_pos ⟨rfl, rfl⟩]
theorem jn_drop_ne {l r x : Txt} {p : List Txt} {i : Nat} (h1 : p[i]? = some x) (h2 : ¬ (x = l ∧ p[i + 1]? = some r)) : jn l r (p.drop i) = x :: jn l r (p.drop (i + 1)) := by
  have hi := (List.getElem?_eq_some_iff.mp h1).1
  rw [List.drop_eq_getElem_cons hi, (List.getElem?_eq_some_iff.mp h1).2]
  cases e : p.drop (i + 1) with
  | nil => rfl
  | cons y t =>
    have h3 : p[i + 1]? = some y := by
      have := congrArg (fun z => z[0]?) e
      simpa using this
    conv => lhs; unfold jn
    rw [if_neg fun q => h2 ⟨q.1, by rw [h3, q.2]⟩]
/-! ### counts -/
def step (tk : List Txt) (c : Int) (f : Fd) (p : Pr) : Fd := if p.1 ++ p.2 ∈ tk then f else putD f p ((lookD f p).getD 0 + c)
def cntL (tk : List Txt) (f : Fd) (z : List Txt × Int) : Fd := (prs z.1).foldl (step tk z.2) f
def cnt (tk : List Txt) (ls : List (List Txt × Int)) : Fd := ls.foldl (cntL tk) []
theorem step_len (tk : List Txt) (c : Int) (f : Fd) (p : Pr) : (step tk c f p).length ≤ f.length + 1 := by
  unfold step
  split
  · omega
  · exact putD_len _ _ _
def Ck (t : Txt) : Prop := ∀ a ∈ t, a < 1114112
def Bp (m : Nat) (p : Pr) : Prop := p.1.length + p.2.length ≤ m ∧ Ck p.1 ∧ Ck p.2
def Bl (m : Nat) (p : List Txt) : Prop := p.flatten.length ≤ m ∧ p.length ≤ m ∧ Ck p.flatten
theorem Bl.ck {m : Nat} {p : List Txt} (h : Bl m p) {x : Txt} (hx : x ∈ p) : Ck x := fun a ha => h.2.2 a (List.mem_flatten.mpr ⟨x, hx, ha⟩)
theorem Bl.pair {m : Nat} {p : List Txt} (h : Bl m p) {z : Pr} (hz : z ∈ prs p) : Bp m z := by
  obtain ⟨i, h1, h2⟩ := prs_mem hz
  exact ⟨Nat.le_trans (prs_len hz) h.1, h.ck (List.mem_of_getElem? h1), h.ck (List.mem_of_getElem? h2)⟩
theorem Bl.jn {m : Nat} {p : List Txt} {l r : Txt} (h : Bl m p) : Bl m (jn l r p) := ⟨by rw [jn_flat]; exact h.1, Nat.le_trans (jn_len _) h.2.1, by rw [jn_flat]; exact h.2.2⟩
/-- what holds of a count table: no key twice, keys no longer than m, together and not taken -/
structure FdOk (tk : List Txt) (m : Nat) (f : Fd) : Prop where
  nd : (f.map (·.1)).Nodup
  bd : ∀ p ∈ f.map (·.1), Bp m p ∧ p.1 ++ p.2 ∉ tk
theorem FdOk.nil (tk : List Txt) (m : Nat) : FdOk tk m [] := ⟨by simp, fun p h => by simp at h⟩
theorem FdOk.step {tk : List Txt} {m : Nat} {f : Fd} {c : Int} {p : Pr} (h : FdOk tk m f) (hp : Bp m p) : FdOk tk m (step tk c f p) := by
  unfold My.step
  split
  · exact h
  · rename_i e
    refine ⟨putD_nd h.nd, fun q hq => ?_⟩
    rw [putD_keys] at hq
    split at hq
    · exact h.bd q hq
    · rcases List.mem_append.mp hq with hq | hq
      · exact h.bd q hq
      · rw [List.mem_singleton.mp hq]; exact ⟨hp, e⟩
theorem FdOk.small {tk : List Txt} {m : Nat} {f : Fd} (h : FdOk tk m f) (hm : m ≤ 16777216) : ∀ z ∈ f, z.1.1.length ≤ 16777216 ∧ z.1.2.length ≤ 16777216 := fun z hz => by
  have := (h.bd z.1 (List.mem_map.mpr ⟨z, hz, rfl⟩)).1.1
  omega
/-! ### the pair that counts most -/
def bs (f : Fd) (s : Option Pr × Int) (p : Pr) : Option Pr × Int := if s.2 < (lookD f p).getD 0 then (some p, (lookD f p).getD 0) else s
def bst (f : Fd) : Option Pr := ((srt (f.map (·.1))).foldl (bs f) (none, 0)).1
theorem bst_mem {f : Fd} {p : Pr} (h : bst f = some p) : p ∈ f.map (·.1) := by
  have key : ∀ (l : List Pr) (s : Option Pr × Int), (∀ q, s.1 = some q → q ∈ f.map (·.1)) → (∀ q ∈ l, q ∈ f.map (·.1)) → ∀ q, (l.foldl (bs f) s).1 = some q → q ∈ f.map (·.1) := by
    intro l
    induction l with
    | nil => intro s h1 _ q e; exact h1 q e
    | cons a l ih =>
      intro s h1 h2 q e
      refine ih (bs f s a) (fun q' e' => ?_) (fun q' hq' => h2 q' (List.mem_cons_of_mem _ hq')) q e
      unfold bs at e'
      split at e'
      · cases e'; exact h2 a List.mem_cons_self
      · exact h1 q' e'
  exact key _ _ (fun q e => by cases e) (fun q hq => (srt_perm _).mem_iff.mp hq) p h
/-! ### training -/
abbrev Ln := List (List Txt × Int)
def jnL (p : Pr) (ls : Ln) : Ln := ls.map fun z => (jn p.1 p.2 z.1, z.2)
def run : Nat → List Txt → Ln → List (Option Pr × Fd) × Ln
  | 0, _, ls => ([], ls)
  | n + 1, tk, ls => match bst (cnt tk ls) with
    | none => ([(none, cnt tk ls)], ls)
    | some p => ((some p, cnt tk ls) :: (run n (addT tk (p.1 ++ p.2)) (jnL p ls)).1, (run n (addT tk (p.1 ++ p.2)) (jnL p ls)).2)
def rls (t : List (Option Pr × Fd)) : List Pr := t.filterMap (·.1)
/-- lines of texts no longer than m, no more than k of them -/
structure LnOk (k m : Nat) (ls : Ln) : Prop where
  few : ls.length ≤ k
  bd : ∀ z ∈ ls, Bl m z.1
theorem LnOk.jn {k m : Nat} {ls : Ln} {p : Pr} (h : LnOk k m ls) : LnOk k m (jnL p ls) := by
  refine ⟨by unfold jnL; rw [List.length_map]; exact h.few, fun z hz => ?_⟩
  obtain ⟨y, hy, rfl⟩ := List.mem_map.mp hz
  exact (h.bd y hy).jn
theorem prs_n (l : List Txt) : (prs l).length ≤ l.length := by
  unfold prs
  rw [List.length_zip, List.length_tail]
  omega
theorem steps_ok {tk : List Txt} {m : Nat} {c : Int} : ∀ (l : List Pr) (f : Fd), FdOk tk m f → (∀ p ∈ l, Bp m p) → FdOk tk m (l.foldl (step tk c) f) ∧ (l.foldl (step tk c) f).length ≤ f.length + l.length
  | [], f, h, _ => ⟨h, Nat.le_refl _⟩
  | p :: l, f, h, hb => by
    obtain ⟨h1, h2⟩ := steps_ok (c := c) l (step tk c f p) (h.step (hb p List.mem_cons_self)) fun q hq => hb q (List.mem_cons_of_mem _ hq)
    have h3 := step_len tk c f p
    have e : (p :: l).foldl (step tk c) f = l.foldl (step tk c) (step tk c f p) := rfl
    rw [e, List.length_cons]
    exact ⟨h1, by omega⟩
theorem fold_take {α β : Type} {g : β → α → β} {a : β} {xs : List α} {i : Nat} {x : α} (h : xs[i]? = some x) : (xs.take (i + 1)).foldl g a = g ((xs.take i).foldl g a) x := by
  rw [List.take_succ, h, List.foldl_append]; rfl
theorem zipV_map {α : Type} (f g : α → PV) : ∀ xs : List α, zipV (xs.map f) (xs.map g) = xs.map fun z => .tup [f z, g z]
  | [] => rfl
  | x :: xs => by
    have := zipV_map f g xs
    unfold zipV at *
    rw [List.map_cons, List.map_cons, List.zipWith_cons_cons, this]
    rfl
theorem zip_prs (p : List Txt) : zipV (p.map .str) (cutL (p.map .str) (some 1) none) = (prs p).map pP := by
  have e : cutL (p.map PV.str) (some 1) none = p.tail.map PV.str := by
    have := cutL_from2 (p.map PV.str) 1
    rw [show ((1 : Nat) : Int) = 1 from rfl] at this
    rw [this, List.drop_one, List.map_tail]
  rw [e]
  unfold zipV prs
  rw [List.zipWith_map, List.zip, List.map_zipWith]
theorem cntL_ok {tk : List Txt} {m : Nat} {f : Fd} {z : List Txt × Int} (h : FdOk tk m f) (hz : Bl m z.1) : FdOk tk m (cntL tk f z) ∧ (cntL tk f z).length ≤ f.length + z.1.length := by
  obtain ⟨h1, h2⟩ := steps_ok (c := z.2) (prs z.1) f h fun p hp => hz.pair hp
  have := prs_n z.1
  unfold cntL
  exact ⟨h1, by omega⟩
theorem cnt_ok {tk : List Txt} {k m : Nat} {ls : Ln} (h : LnOk k m ls) : FdOk tk m (cnt tk ls) ∧ (cnt tk ls).length ≤ k * m := by
  have key : ∀ (l : Ln) (f : Fd), FdOk tk m f → (∀ z ∈ l, Bl m z.1) → FdOk tk m (l.foldl (cntL tk) f) ∧ (l.foldl (cntL tk) f).length ≤ f.length + l.length * m := by
    intro l
    induction l with
    | nil => intro f h _; exact ⟨h, by simp⟩
    | cons z l ih =>
      intro f h hb
      have b1 := hb z List.mem_cons_self
      have b2 := b1.2.1
      obtain ⟨c1, c2⟩ := cntL_ok (z := z) h b1
      obtain ⟨h1, h2⟩ := ih (cntL tk f z) c1 fun q hq => hb q (List.mem_cons_of_mem _ hq)
      have e : (z :: l).foldl (cntL tk) f = l.foldl (cntL tk) (cntL tk f z) := rfl
      rw [e, List.length_cons, Nat.add_mul, Nat.one_mul]
      exact ⟨h1, by omega⟩
  obtain ⟨h1, h2⟩ := key ls [] (FdOk.nil tk m) h.bd
  refine ⟨h1, Nat.le_trans h2 ?_⟩
  have := Nat.mul_le_mul_right m h.few
  simp only [List.length_nil, Nat.zero_add]
  exact this
theorem S_beq (a c : Txt) : (S a == S c) = decide (a = c) := by
  by_cases e : a = c
  · subst e; rw [decide_eq_true rfl]; exact beq_self_eq_true _
  · rw [decide_eq_false e]; exact beq_eq_false_iff_ne.mpr fun q => e (S_inj.mp q)
theorem ck_ok {t : Txt} (h : Ck t) : PyData.strOk (S t) = true := by
  unfold PyData.strOk S
  rw [Array.all_eq_true]
  intro i hi
  exact decide_eq_true (h _ (by simpa using Array.getElem_mem hi))
theorem shaped_two {a b : Txt} (ha : Ck a) (hb : Ck b) : SeqAt.shaped (PV.tup [.str a, .str b]).toD = true := by
  show (PyData.canLay0 (.tuple [.str (S a), .str (S b)]) && decide (PyData.depth (.tuple [.str (S a), .str (S b)]) ≤ 64)) = true
  rw [Bool.and_eq_true]
  refine ⟨?_, decide_eq_true (by simp [PyData.depth, PyData.depthAll])⟩
  simp only [PyData.canLay0, PyData.canLayAll0, ck_ok ha, ck_ok hb]
  rfl
theorem u_eqPP {a b c d : Txt} {post : PV → Prop} (ha : Ck a) (hb : Ck b) (hc : Ck c) (hd : Ck d) (h : post (.bl (decide (a = c ∧ b = d)))) : fEqD false (.tup [.str a, .str b]) (.tup [.str c, .str d]) post := by
  refine u_eqD (by rfl) (by rfl) (shaped_two ha hb) (shaped_two hc hd) ?_
  have e : PyData.eqv (PV.tup [.str a, .str b]).toD (PV.tup [.str c, .str d]).toD = ((S a == S c) && ((S b == S d) && true)) := by rfl
  rw [e, S_beq, S_beq, Bool.and_true, ← Bool.decide_and]
  exact h
theorem prs_eq_len (p : List Txt) : (prs p).length = p.length - 1 := by
  unfold prs
  rw [List.length_zip, List.length_tail]
  omega
theorem prs_get {p : List Txt} {i : Nat} {x y : Txt} (h1 : p[i]? = some x) (h2 : p[i + 1]? = some y) : (prs p)[i]? = some (x, y) := by
  unfold prs
  rw [List.getElem?_zip_eq_some, List.getElem?_tail]
  exact ⟨h1, h2⟩
theorem LnOk.take {k m : Nat} {ls : Ln} (h : LnOk k m ls) (i : Nat) : LnOk k m (ls.take i) :=
  ⟨by rw [List.length_take]; have := h.few; omega, fun z hz => h.bd z (List.mem_of_mem_take hz)⟩
theorem addT_new {tk : List Txt} {t : Txt} (h : t ∉ tk) : addT tk t = tk ++ [t] := by unfold addT; rw [if_neg h]
/-! ## joins: the cut by all rules, and what a training leaves -/
def pcs (rs : List Pr) (p : List Txt) : List Txt := rs.foldl (fun q z => jn z.1 z.2 q) p
theorem pcs_len (rs : List Pr) (p : List Txt) : (pcs rs p).length ≤ p.length := by
  induction rs generalizing p with
  | nil => exact Nat.le_refl _
  | cons a rs ih => exact Nat.le_trans (ih _) (jn_len _)
theorem pcs_take {rs : List Pr} {i : Nat} {z : Pr} {p : List Txt} (h : rs[i]? = some z) : pcs (rs.take (i + 1)) p = jn z.1 z.2 (pcs (rs.take i) p) := fold_take (g := fun (q : List Txt) (z : Pr) => jn z.1 z.2 q) h
theorem pcs_mem {rs : List Pr} {p : List Txt} {x : Txt} (h : x ∈ pcs rs p) : x ∈ p ∨ ∃ z ∈ rs, x = z.1 ++ z.2 := by
  induction rs generalizing p with
  | nil => exact .inl h
  | cons a rs ih =>
    rcases ih h with h | ⟨z, hz, e⟩
    · rcases jn_mem h with h | h
      · exact .inl h
      · exact .inr ⟨a, List.mem_cons_self, h⟩
    · exact .inr ⟨z, List.mem_cons_of_mem _ hz, e⟩
abbrev chs (t : Txt) : List Txt := t.map fun a => [a]
theorem chs_str (t : Txt) : t.map (fun c => PV.str [c]) = (chs t).map PV.str := by rw [List.map_map]; rfl
theorem chs_len (t : Txt) : (chs t).length = t.length := List.length_map _
/-- the pieces that have a name -/
def InN (ls : Txt) (rs : List Pr) (x : Txt) : Prop := (∃ a ∈ ls, x = [a]) ∨ ∃ z ∈ rs, x = z.1 ++ z.2
theorem pcs_in {ls t : Txt} {rs : List Pr} (h : ∀ a ∈ t, a ∈ ls) {x : Txt} (hx : x ∈ pcs rs (chs t)) : InN ls rs x := by
  rcases pcs_mem hx with h1 | h1
  · obtain ⟨a, ha, e⟩ := List.mem_map.mp h1
    exact .inl ⟨a, h a ha, e.symm⟩
  · exact .inr h1
/-! ### a training -/
theorem run_none {n : Nat} {tk : List Txt} {ls : Ln} (h : bst (cnt tk ls) = none) : run (n + 1) tk ls = ([(none, cnt tk ls)], ls) := by
  conv => lhs; unfold run
  rw [h]
theorem run_some {n : Nat} {tk : List Txt} {ls : Ln} {p : Pr} (h : bst (cnt tk ls) = some p) : run (n + 1) tk ls = ((some p, cnt tk ls) :: (run n (addT tk (p.1 ++ p.2)) (jnL p ls)).1, (run n (addT tk (p.1 ++ p.2)) (jnL p ls)).2) := by
  conv => lhs; unfold run
  rw [h]
theorem run_ok : ∀ (n : Nat) (tk : List Txt) (ls : Ln), LnOk 40 80 ls → ∀ z ∈ (run n tk ls).1, ∃ tk', FdOk tk' 80 z.2 ∧ z.2.length ≤ 3200 ∧ ∀ p, z.1 = some p → p ∈ z.2.map (·.1)
  | 0, _, _, _, z, hz => by unfold run at hz; cases hz
  | n + 1, tk, ls, ok, z, hz => by
    obtain ⟨c1, c2⟩ := cnt_ok (tk := tk) ok
    cases e : bst (cnt tk ls) with
    | none =>
      rw [run_none e] at hz
      rw [List.mem_singleton.mp hz]
      exact ⟨tk, c1, c2, fun p h => by cases h⟩
    | some p =>
      rw [run_some e] at hz
      rcases List.mem_cons.mp hz with rfl | hz
      · exact ⟨tk, c1, c2, fun q h => by cases h; exact bst_mem e⟩
      · exact run_ok n _ _ ok.jn z hz
theorem rls_ok {n : Nat} {tk : List Txt} {ls : Ln} (ok : LnOk 40 80 ls) {p : Pr} (h : p ∈ rls (run n tk ls).1) : Bp 80 p := by
  unfold rls at h
  obtain ⟨z, hz, e⟩ := List.mem_filterMap.mp h
  obtain ⟨tk', k1, _, k3⟩ := run_ok n tk ls ok z hz
  exact (k1.bd p (k3 p e)).1
theorem rls_cons {p : Pr} {f : Fd} {t : List (Option Pr × Fd)} : rls ((some p, f) :: t) = p :: rls t := rfl
theorem rls_app (t u : List (Option Pr × Fd)) : rls (t ++ u) = rls t ++ rls u := by unfold rls; rw [List.filterMap_append]
theorem run_shape : ∀ (n : Nat) (tk : List Txt) (ls : Ln), (rls (run n tk ls).1).length ≤ n ∧ (run n tk ls).1.map (·.1) = (rls (run n tk ls).1).map some ++ (if (rls (run n tk ls).1).length < n then [none] else [])
  | 0, _, _ => by unfold run; exact ⟨Nat.le_refl _, rfl⟩
  | n + 1, tk, ls => by
    cases e : bst (cnt tk ls) with
    | none => rw [run_none e]; exact ⟨Nat.zero_le _, rfl⟩
    | some p =>
      obtain ⟨h1, h2⟩ := run_shape n (addT tk (p.1 ++ p.2)) (jnL p ls)
      rw [run_some e, rls_cons, List.map_cons, h2, List.length_cons]
      refine ⟨by omega, ?_⟩
      by_cases z : (rls (run n (addT tk (p.1 ++ p.2)) (jnL p ls)).1).length < n
      · rw [if_pos z, if_pos (by omega)]; rfl
      · rw [if_neg z, if_neg (by omega)]; rfl
theorem run_lines : ∀ (n : Nat) (tk : List Txt) (ls : Ln), (run n tk ls).2 = ls.map fun z => (pcs (rls (run n tk ls).1) z.1, z.2)
  | 0, _, ls => by unfold run; exact (List.map_id' ls).symm
  | n + 1, tk, ls => by
    cases e : bst (cnt tk ls) with
    | none => rw [run_none e]; exact (List.map_id' ls).symm
    | some p =>
      rw [run_some e, rls_cons]
      show (run n (addT tk (p.1 ++ p.2)) (jnL p ls)).2 = _
      rw [run_lines n]
      unfold jnL
      rw [List.map_map]
      rfl
theorem jnL_two (p : Pr) (ls : Ln) : (jnL p ls).map (fun z => PV.int z.2) = ls.map fun z => PV.int z.2 := by unfold jnL; rw [List.map_map]; rfl
theorem jnL_one (p : Pr) (ls : Ln) : (jnL p ls).map (fun z => lP z.1) = ls.map fun z => lP (jn p.1 p.2 z.1) := by unfold jnL; rw [List.map_map]; rfl
theorem filter_rls {α : Type} (g : Pr → α) (d : Pr) : ∀ t : List (Option Pr × Fd), (t.filter fun z => z.1.isSome).map (fun z => g (z.1.getD d)) = (rls t).map g
  | [] => rfl
  | (none, f) :: t => by
    rw [List.filter_cons_of_neg (by simp), filter_rls g d t]; rfl
  | (some p, f) :: t => by
    rw [List.filter_cons_of_pos (by simp), List.map_cons, filter_rls g d t]; rfl
/-! ### lists of pairs are equal to themselves -/
theorem dn_pair {p : Pr} (h : Ck p.1 ∧ Ck p.2) : Dn 1 (pP p) := dn_tup fun d hd => by
  simp only [List.mem_cons, List.not_mem_nil, or_false] at hd
  rcases hd with rfl | rfl
  · exact dn_str h.1
  · exact dn_str h.2
theorem u_eqPs {ps : List Pr} {n : Bool} {post : PV → Prop} (h : ∀ p ∈ ps, Ck p.1 ∧ Ck p.2) (q : post (.bl (!n))) : fEqD n (.lst (ps.map pP)) (.lst (ps.map pP)) post :=
  u_eqSelf (k := 2) (dn_lst fun d hd => by
    obtain ⟨p, hp, rfl⟩ := List.mem_map.mp hd
    exact dn_pair (h p hp)) (by decide) q
/-! ## the contracts -/
def sp_joined : SpV := fun ds post => ∃ (l r : Txt) (p : List Txt), ds = [lP p, .str l, .str r] ∧ p.length ≤ 10000 ∧ l.length + r.length ≤ 10000 ∧ post (.ol ((jn l r p).map .str))
def sp_joinedL : SpV := fun ds post => ∃ (l r : Txt) (p : List Txt), ds = [lP p, pP (l, r)] ∧ p.length ≤ 10000 ∧ (∀ x ∈ p, x.length ≤ 10000 ∧ Ck x) ∧ Bp 10000 (l, r) ∧ post (.ol ((jn l r p).map .str))
abbrev dS (tk : List Txt) : PV := .dK (kvT tk (.bl true))
abbrev dF (f : Fd) : PV := .dT (kvF f)
def sp_pair_counts : SpK := fun ds es post => ∃ (ls : Ln) (tk : List Txt), ds = [.lst (ls.map fun z => lP z.1), .lst (ls.map fun z => .int z.2)] ∧ es = kvT tk (.bl true) ∧ LnOk 40 80 ls ∧ post (dF (cnt tk ls))
abbrev lnP (z : List Txt × Int) : PV := .tup [lP z.1, .int z.2]
def sp_counts : SpK := fun ds es post => ∃ (ls : Ln) (tk : List Txt), ds = [.lst (ls.map lnP)] ∧ es = kvT tk (.bl true) ∧ LnOk 40 80 ls ∧ post (dF (cnt tk ls))
def oP : Option Pr → PV
  | none => .non
  | some p => pP p
def sp_chosen : SpV := fun ds post => ∃ (f : Fd) (tk : List Txt), ds = [dF f] ∧ FdOk tk 80 f ∧ f.length ≤ 3200 ∧ post (.sh (oP (bst f)))
abbrev cP (c : Txt × Int) : PV := .tup [.str c.1, .int c.2]
abbrev coP (cs : List (Txt × Int)) : PV := .tup (cs.map cP)
def ln0 (cs : List (Txt × Int)) : Ln := cs.map fun c => (c.1.map fun a => [a], c.2)
structure CoOk (ls : Txt) (cs : List (Txt × Int)) : Prop where
  ck : Ck ls
  few : cs.length ≤ 40
  bd : ∀ c ∈ cs, c.1.length ≤ 80 ∧ ∀ a ∈ c.1, a ∈ ls
theorem flatc (t : Txt) : (t.map fun a => [a]).flatten = t := flat_chr t
theorem CoOk.ln {ls : Txt} {cs : List (Txt × Int)} (h : CoOk ls cs) : LnOk 40 80 (ln0 cs) := by
  refine ⟨by unfold ln0; rw [List.length_map]; exact h.few, fun z hz => ?_⟩
  obtain ⟨c, hc, rfl⟩ := List.mem_map.mp hz
  obtain ⟨b1, b2⟩ := h.bd c hc
  exact ⟨by rw [flatc]; exact b1, by rw [List.length_map]; exact b1, by rw [flatc]; exact fun a ha => h.ck a (b2 a ha)⟩
abbrev stP (z : Option Pr × Fd) : PV := .tup [oP z.1, dF z.2]
def sp_steps : SpV := fun ds post => ∃ (ls : Txt) (cs : List (Txt × Int)) (n : Nat), ds = [coP cs, .int (n : Nat)] ∧ CoOk ls cs ∧ n ≤ 16 ∧ post (.ol ((run n [] (ln0 cs)).1.map stP))
abbrev enP (f : Fd) (p : Pr) : PV := .tup [pP p, .int ((lookD f p).getD 0)]
abbrev lgP (z : Option Pr × Fd) : PV := .tup [oP z.1, .tup ((srt (z.2.map (·.1))).map (enP z.2))]
def sp_log : SpV := fun ds post => ∃ (ls : Txt) (cs : List (Txt × Int)) (n : Nat), ds = [.str ls, coP cs, .int (n : Nat)] ∧ CoOk ls cs ∧ n ≤ 16 ∧ post (.sh (.tup ((run n [] (ln0 cs)).1.map lgP)))
/-! ### a training that stopped -/
theorem run_more : ∀ (n : Nat) (tk : List Txt) (ls : Ln), (run n tk ls).1.getLast?.map (·.1) = some none → (run (n + 1) tk ls).1 = (run n tk ls).1
  | 0, _, _, h => by unfold run at h; cases h
  | n + 1, tk, ls, h => by
    cases e : bst (cnt tk ls) with
    | none => rw [run_none e, run_none e]
    | some p =>
      rw [run_some e] at h
      rw [run_some (n := n + 1) e, run_some (n := n) e]
      show _ :: (run (n + 1) _ _).1 = _ :: (run n _ _).1
      rw [run_more n]
      cases e2 : (run n (addT tk (p.1 ++ p.2)) (jnL p ls)).1 with
      | nil => rw [e2] at h; simp at h
      | cons z t => rw [e2, List.getLast?_cons_cons] at h; exact h
theorem run_mores {n : Nat} {tk : List Txt} {ls : Ln} (h : (run n tk ls).1.getLast?.map (·.1) = some none) : ∀ m, (run (n + m) tk ls).1 = (run n tk ls).1
  | 0 => rfl
  | m + 1 => by
    have ih := run_mores h m
    rw [← ih]
    exact run_more (n + m) tk ls (by rw [ih]; exact h)
/-! ## a pair that was joined never comes again -/
theorem jn_split {l r : Txt} : ∀ (row A B : List Txt), jn l r row = A ++ B → ∃ a b, row = a ++ b ∧ jn l r a = A ∧ jn l r b = B
  | row, [], B, h => ⟨[], row, rfl, by unfold jn; rfl, h⟩
  | [], z :: A, B, h => by unfold jn at h; cases h
  | [x], z :: A, B, h => by
    unfold jn at h
    obtain ⟨e1, e2⟩ := List.cons.inj h
    obtain ⟨rfl, rfl⟩ := List.append_eq_nil_iff.mp e2.symm
    exact ⟨[x], [], rfl, by rw [← e1]; unfold jn; rfl, by unfold jn; rfl⟩
  | x :: y :: t, z :: A, B, h => by
    unfold jn at h
    split at h
    · rename_i e
      obtain ⟨e1, e2⟩ := List.cons.inj h
      obtain ⟨a, b, h1, h2, h3⟩ := jn_split t A B e2
      refine ⟨x :: y :: a, b, by rw [h1]; rfl, ?_, h3⟩
      unfold jn
      rw [if_pos e, e1, h2]
    · rename_i e
      obtain ⟨e1, e2⟩ := List.cons.inj h
      obtain ⟨a, b, h1, h2, h3⟩ := jn_split (y :: t) A B e2
      refine ⟨x :: a, b, by rw [h1]; rfl, ?_, h3⟩
      cases a with
      | nil => rw [← h2, ← e1]; unfold jn; rfl
      | cons y' a =>
        have hy : y = y' := (List.cons.inj h1).1
        subst hy
        unfold jn
        rw [if_neg e, h2, e1]
theorem pcs_cons (z : Pr) (rs : List Pr) (p : List Txt) : pcs (z :: rs) p = pcs rs (jn z.1 z.2 p) := rfl
theorem pcs_app (rs ss : List Pr) (p : List Txt) : pcs (rs ++ ss) p = pcs ss (pcs rs p) := by unfold pcs; rw [List.foldl_append]
theorem pcs_split : ∀ (rs : List Pr) (row A B : List Txt), pcs rs row = A ++ B → ∃ a b, row = a ++ b ∧ pcs rs a = A ∧ pcs rs b = B
  | [], row, A, B, h => ⟨A, B, h, rfl, rfl⟩
  | z :: rs, row, A, B, h => by
    obtain ⟨a', b', h1, h2, h3⟩ := pcs_split rs (jn z.1 z.2 row) A B h
    obtain ⟨a, b, k1, k2, k3⟩ := jn_split row a' b' h1
    exact ⟨a, b, k1, by rw [pcs_cons, k2, h2], by rw [pcs_cons, k3, h3]⟩
theorem pcs_flat : ∀ (rs : List Pr) (p : List Txt), (pcs rs p).flatten = p.flatten
  | [], _ => rfl
  | z :: rs, p => by rw [pcs_cons, pcs_flat rs, jn_flat]
theorem pcs_sing (x : Txt) : ∀ rs : List Pr, pcs rs [x] = [x]
  | [] => rfl
  | z :: rs => by
    rw [pcs_cons, show jn z.1 z.2 [x] = [x] by unfold jn; rfl]
    exact pcs_sing x rs
theorem prs_split {l : List Txt} {z : Pr} (h : z ∈ prs l) : ∃ A C, l = A ++ ([z.1, z.2] ++ C) := by
  obtain ⟨i, h1, h2⟩ := prs_mem h
  refine ⟨l.take i, l.drop (i + 2), ?_⟩
  have e : l.drop i = [z.1, z.2] ++ l.drop (i + 2) := by
    rw [List.drop_eq_getElem_cons (List.getElem?_eq_some_iff.mp h1).1, List.drop_eq_getElem_cons (List.getElem?_eq_some_iff.mp h2).1, (List.getElem?_eq_some_iff.mp h1).2, (List.getElem?_eq_some_iff.mp h2).2]
    rfl
  rw [← e, List.take_append_drop]
theorem chs_flat (m : List Txt) (h : ∀ x ∈ m, ∃ a : Nat, x = [a]) : m = chs m.flatten := by
  induction m with
  | nil => rfl
  | cons x m ih =>
    obtain ⟨a, rfl⟩ := h x List.mem_cons_self
    have := ih fun y hy => h y (List.mem_cons_of_mem _ hy)
    rw [List.flatten_cons]
    show [a] :: m = [a] :: chs m.flatten
    rw [← this]
theorem seg {rs : List Pr} {t : Txt} {z : Pr} (h : z ∈ prs (pcs rs (chs t))) : pcs rs (chs (z.1 ++ z.2)) = [z.1, z.2] := by
  obtain ⟨A, C, e⟩ := prs_split h
  obtain ⟨a, b, e1, e2, e3⟩ := pcs_split rs _ _ _ e
  obtain ⟨m, c, e4, e5, e6⟩ := pcs_split rs _ _ _ e3
  have hm : ∀ x ∈ m, ∃ a : Nat, x = [a] := fun x hx => by
    have : x ∈ chs t := by rw [e1, e4]; simp [hx]
    obtain ⟨a, _, e⟩ := List.mem_map.mp this
    exact ⟨a, e.symm⟩
  have hf : m.flatten = z.1 ++ z.2 := by rw [← pcs_flat rs m, e5]; simp
  rw [← hf, ← chs_flat m hm, e5]
abbrev cat2 (p : Pr) : Txt := p.1 ++ p.2
/-- each rule stood as a pair when it was taken -/
def Okr (rs : List Pr) : Prop := ∀ (i : Nat) (p : Pr), rs[i]? = some p → pcs (rs.take i) (chs (cat2 p)) = [p.1, p.2]
theorem okr_nil : Okr [] := fun i p h => by simp at h
theorem okr_snoc {rs : List Pr} {t : Txt} {z : Pr} (h : Okr rs) (hz : z ∈ prs (pcs rs (chs t))) : Okr (rs ++ [z]) := fun i p hp => by
  by_cases hi : i < rs.length
  · rw [List.getElem?_append_left hi] at hp
    rw [List.take_append_of_le_length (by omega)]
    exact h i p hp
  · have hl : i = rs.length := by
      have := (List.getElem?_eq_some_iff.mp hp).1
      rw [List.length_append, List.length_singleton] at this
      omega
    subst hl
    rw [List.getElem?_append_right (Nat.le_refl _), Nat.sub_self] at hp
    cases hp
    rw [List.take_left']
    · exact seg hz
    · rfl
theorem okr_one {rs : List Pr} {p : Pr} (h : Okr rs) (hp : p ∈ rs) : pcs rs (chs (cat2 p)) = [cat2 p] := by
  obtain ⟨i, hi⟩ := List.mem_iff_getElem?.mp hp
  have h1 := h i p hi
  have e : rs = rs.take (i + 1) ++ rs.drop (i + 1) := (List.take_append_drop _ _).symm
  rw [e, pcs_app, pcs_take hi, h1, show jn p.1 p.2 [p.1, p.2] = [cat2 p] by unfold jn; rw [if_pos ⟨rfl, rfl⟩]; unfold jn; rfl, pcs_sing]
theorem okr_new {rs : List Pr} {t : Txt} {z : Pr} (h : Okr rs) (hz : z ∈ prs (pcs rs (chs t))) : cat2 z ∉ rs.map cat2 := fun hm => by
  obtain ⟨p, hp, e⟩ := List.mem_map.mp hm
  have h1 := seg hz
  have h2 := okr_one h hp
  rw [e] at h2
  rw [show z.1 ++ z.2 = cat2 z from rfl, h2] at h1
  simp at h1
/-! ### counts without a look at what was taken -/
theorem cnt_free {tk : List Txt} {ls : Ln} (h : ∀ z ∈ ls, ∀ p ∈ prs z.1, cat2 p ∉ tk) : cnt tk ls = cnt [] ls := by
  have one : ∀ (c : Int) (l : List Pr) (f : Fd), (∀ p ∈ l, cat2 p ∉ tk) → l.foldl (step tk c) f = l.foldl (step [] c) f := by
    intro c l
    induction l with
    | nil => intro f _; rfl
    | cons p l ih =>
      intro f hl
      rw [List.foldl_cons, List.foldl_cons]
      have e : step tk c f p = step [] c f p := by
        unfold step
        rw [if_neg (hl p List.mem_cons_self), if_neg (by simp)]
      rw [e]
      exact ih _ fun q hq => hl q (List.mem_cons_of_mem _ hq)
  have two : ∀ (l : Ln) (f : Fd), (∀ z ∈ l, ∀ p ∈ prs z.1, cat2 p ∉ tk) → l.foldl (cntL tk) f = l.foldl (cntL []) f := by
    intro l
    induction l with
    | nil => intro f _; rfl
    | cons z l ih =>
      intro f hl
      rw [List.foldl_cons, List.foldl_cons]
      have e : cntL tk f z = cntL [] f z := one z.2 (prs z.1) f (hl z List.mem_cons_self)
      rw [e]
      exact ih _ fun q hq => hl q (List.mem_cons_of_mem _ hq)
  exact two ls [] h
/-- where a training stands: the rules so far, the lines cut by them -/
structure Trn (cs : List (Txt × Int)) (rs : List Pr) (tk : List Txt) (ls : Ln) : Prop where
  ok : Okr rs
  tk : tk = rs.map cat2
  ls : ls = (ln0 cs).map fun z => (pcs rs z.1, z.2)
theorem Trn.start (cs : List (Txt × Int)) : Trn cs [] [] (ln0 cs) := ⟨okr_nil, rfl, (List.map_id' _).symm⟩
theorem Trn.free {cs : List (Txt × Int)} {rs : List Pr} {tk : List Txt} {ls : Ln} (h : Trn cs rs tk ls) : ∀ z ∈ ls, ∀ p ∈ prs z.1, cat2 p ∉ tk := fun z hz p hp => by
  rw [h.ls] at hz
  obtain ⟨y, hy, rfl⟩ := List.mem_map.mp hz
  unfold ln0 at hy
  obtain ⟨c, _, rfl⟩ := List.mem_map.mp hy
  rw [h.tk]
  exact okr_new h.ok hp
theorem cnt_pair {tk : List Txt} {ls : Ln} {p : Pr} (h : p ∈ (cnt tk ls).map (·.1)) : ∃ z ∈ ls, p ∈ prs z.1 := by
  have one : ∀ (c : Int) (l : List Pr) (f : Fd), p ∈ (l.foldl (step tk c) f).map (·.1) → p ∈ f.map (·.1) ∨ p ∈ l := by
    intro c l
    induction l with
    | nil => intro f h; exact .inl h
    | cons q l ih =>
      intro f h
      rcases ih _ h with h | h
      · unfold step at h
        split at h
        · exact .inl h
        · rw [putD_keys] at h
          split at h
          · exact .inl h
          · rcases List.mem_append.mp h with h | h
            · exact .inl h
            · rw [List.mem_singleton.mp h]; exact .inr List.mem_cons_self
      · exact .inr (List.mem_cons_of_mem _ h)
  have two : ∀ (l : Ln) (f : Fd), p ∈ (l.foldl (cntL tk) f).map (·.1) → p ∈ f.map (·.1) ∨ ∃ z ∈ l, p ∈ prs z.1 := by
    intro l
    induction l with
    | nil => intro f h; exact .inl h
    | cons z l ih =>
      intro f h
      rcases ih _ h with h | ⟨y, hy, h⟩
      · rcases one z.2 (prs z.1) f h with h | h
        · exact .inl h
        · exact .inr ⟨z, List.mem_cons_self, h⟩
      · exact .inr ⟨y, List.mem_cons_of_mem _ hy, h⟩
  rcases two ls [] h with h | h
  · cases h
  · exact h
theorem Trn.next {cs : List (Txt × Int)} {rs : List Pr} {tk : List Txt} {ls : Ln} {p : Pr} (h : Trn cs rs tk ls) (e : bst (cnt tk ls) = some p) : Trn cs (rs ++ [p]) (addT tk (p.1 ++ p.2)) (jnL p ls) := by
  obtain ⟨z, hz, hp⟩ := cnt_pair (bst_mem e)
  have hfree := h.free z hz p hp
  rw [h.ls] at hz
  obtain ⟨y, hy, rfl⟩ := List.mem_map.mp hz
  have hy2 := hy
  unfold ln0 at hy2
  obtain ⟨c, _, rfl⟩ := List.mem_map.mp hy2
  refine ⟨okr_snoc h.ok hp, ?_, ?_⟩
  · rw [addT_new hfree, h.tk, List.map_append]
    rfl
  · rw [h.ls]
    unfold jnL
    rw [List.map_map]
    refine List.map_congr_left fun w _ => ?_
    show (jn p.1 p.2 (pcs rs w.1), w.2) = (pcs (rs ++ [p]) w.1, w.2)
    rw [pcs_app]
    rfl
/-! ## a < b of pairs, in the order of their sorting -/
abbrev sP (p : Pr) : List Str := [S p.1, S p.2]
theorem blt_txt (a c : Txt) : itemOrd.blt (Sum.inr a) (Sum.inr c) = decide (a < c) := by
  show itemLt (Sum.inr a) (Sum.inr c) = _
  unfold itemLt
  first | rfl | simp
theorem lxS_pair (p q : Pr) : lxS (sP p) (sP q) = !lek q p := by
  obtain ⟨a, b⟩ := p
  obtain ⟨c, d⟩ := q
  unfold lek
  rw [Bool.not_not]
  have e : PyProof.Rows.lexLt itemOrd [Sum.inr a, Sum.inr b] [Sum.inr c, Sum.inr d] = (decide (a < c) || (!decide (c < a) && (decide (b < d) || (!decide (d < b) && false)))) := by
    rw [lex_cons, lex_cons, blt_txt, blt_txt, blt_txt, blt_txt]
    rfl
  show lxS [S a, S b] [S c, S d] = PyProof.Rows.lexLt itemOrd [Sum.inr a, Sum.inr b] [Sum.inr c, Sum.inr d]
  rw [e, Bool.and_false, Bool.or_false]
  have irr : ∀ x : Txt, ¬ x < x := fun x => List.lt_irrefl x
  unfold lxS lxS
  by_cases h1 : a = c
  · subst h1
    rw [if_pos rfl, decide_eq_false (irr a)]
    by_cases h2 : b = d
    · subst h2
      rw [if_pos rfl, decide_eq_false (irr b)]
      rfl
    · rw [if_neg fun z => h2 (S_inj.mp z)]
      show decide (b < d) = _
      simp
  · rw [if_neg fun z => h1 (S_inj.mp z)]
    show decide (a < c) = _
    by_cases h3 : a < c
    · rw [decide_eq_true h3]; rfl
    · by_cases h4 : c < a
      · rw [decide_eq_false h3, decide_eq_true h4]; rfl
      · exact absurd (List.le_antisymm (as := a) (bs := c) h4 h3) h1
/-! ## a dict is locked while it is walked -/
def Dct (u : HO) : Prop := (∃ xs, u = .dK xs) ∨ ∃ xs, u = .dT xs
def Cor (o o' : HO) : Prop := o' = o ∨ ∃ u, Dct u ∧ (o = u ∨ ∃ b, o = .frz b u) ∧ (o' = u ∨ ∃ b, o' = .frz b u)
theorem Cor.same {o o' : HO} (h : Cor o o') (n : ¬ Dct o) (m : ∀ b u, o ≠ .frz b u) : o' = o := by
  rcases h with h | ⟨u, hu, h | ⟨b, h⟩, _⟩
  · exact h
  · exact absurd (h ▸ hu) n
  · exact absurd h (m b u)
theorem Cor.rd {u o o' : HO} (nf : ∀ b v, u ≠ .frz b v) (h : o = u ∨ ∃ b, o = .frz b u) (c : Cor o o') : o' = u ∨ ∃ b, o' = .frz b u := by
  rcases c with rfl | ⟨u', hu', h1, h2⟩
  · exact h
  · have : u' = u := by
      rcases h with rfl | ⟨b, rfl⟩
      · rcases h1 with h1 | ⟨b, h1⟩
        · exact h1.symm
        · exact absurd h1 (nf b u')
      · rcases h1 with h1 | ⟨b', h1⟩
        · rcases hu' with ⟨_, rfl⟩ | ⟨_, rfl⟩ <;> cases h1
        · injection h1 with _ h1; exact h1.symm
    subst this
    exact h2
theorem Cor.symm {o o' : HO} (h : Cor o o') : Cor o' o := by
  rcases h with h | ⟨u, hu, h1, h2⟩
  · exact .inl h.symm
  · exact .inr ⟨u, hu, h2, h1⟩
def Sim (G G' : Hp) : Prop := ∀ a o, G a = some o → ∃ o', G' a = some o' ∧ Cor o o'
theorem Sim.refl (G : Hp) : Sim G G := fun a o h => ⟨o, h, .inl rfl⟩
section
variable {G G' : Hp} {a : Addr}
theorem Sim.tup {xs : List V} (s : Sim G G') (h : G a = some (.tup xs)) : G' a = some (.tup xs) := by
  obtain ⟨o', e, c⟩ := s _ _ h
  rw [e, c.same (fun z => by rcases z with ⟨_, z⟩ | ⟨_, z⟩ <;> cases z) (fun _ _ z => nomatch z)]
theorem Sim.lst {xs : List V} (s : Sim G G') (h : G a = some (.lst xs)) : G' a = some (.lst xs) := by
  obtain ⟨o', e, c⟩ := s _ _ h
  rw [e, c.same (fun z => by rcases z with ⟨_, z⟩ | ⟨_, z⟩ <;> cases z) (fun _ _ z => nomatch z)]
theorem Sim.xd {xs : List (Str × V)} (s : Sim G G') (h : G a = some (.xd xs)) : G' a = some (.xd xs) := by
  obtain ⟨o', e, c⟩ := s _ _ h
  rw [e, c.same (fun z => by rcases z with ⟨_, z⟩ | ⟨_, z⟩ <;> cases z) (fun _ _ z => nomatch z)]
theorem Sim.rd {u : HO} (s : Sim G G') (nf : ∀ b v, u ≠ .frz b v) (h : Rd G a u) : Rd G' a u := by
  rcases h with h | ⟨b, h⟩
  · obtain ⟨o', e, c⟩ := s _ _ h
    rcases c.rd nf (.inl rfl) with z | ⟨b, z⟩
    · exact .inl (by rw [e, z])
    · exact .inr ⟨b, by rw [e, z]⟩
  · obtain ⟨o', e, c⟩ := s _ _ h
    rcases c.rd nf (.inr ⟨b, rfl⟩) with z | ⟨b, z⟩
    · exact .inl (by rw [e, z])
    · exact .inr ⟨b, by rw [e, z]⟩
theorem Sim.sqL {K : PySem.W.Frag} {xs : List V} (s : Sim G G') (h : SqL K G a xs) : SqL K G' a xs := by
  rcases h with h | h
  · exact .inl (s.rd (fun _ _ z => nomatch z) h)
  · exact .inr h
end
section
variable {K : PySem.W.Frag} {pl : PL} {G G' : Hp}
mutual
theorem Rs.sim (s : Sim G G') : ∀ (d : PV) (v : V), Rs K pl G d v → Rs K pl G' d v
  | .non, v, h => by unfold Rs at h ⊢; exact h
  | .bl b, v, h => by unfold Rs at h ⊢; exact h
  | .int i, v, h => by unfold Rs at h ⊢; exact h
  | .str l, v, h => by unfold Rs at h ⊢; exact h
  | .tup ds, v, h => by
    unfold Rs at h ⊢
    obtain ⟨a, xs, e, h1, h2, h3⟩ := h
    exact ⟨a, xs, e, s.tup h1, Rl.sim s ds xs h2, h3⟩
  | .lst ds, v, h => by
    unfold Rs at h ⊢
    obtain ⟨a, xs, e, h1, h2, h3⟩ := h
    exact ⟨a, xs, e, s.lst h1, Rl.sim s ds xs h2, h3⟩
  | .dK ds, v, h => by
    unfold Rs at h ⊢
    obtain ⟨a, xs, e, h1, h2, h3⟩ := h
    exact ⟨a, xs, e, s.rd (fun _ _ z => nomatch z) h1, Rk.sim s ds xs h2, h3⟩
  | .dT ds, v, h => by
    unfold Rs at h ⊢
    obtain ⟨a, xs, e, h1, h2, h3⟩ := h
    exact ⟨a, xs, e, s.rd (fun _ _ z => nomatch z) h1, Rt.sim s ds xs h2, h3⟩
  | .ty n, v, h => by unfold Rs at h ⊢; exact h
  | .pool, v, h => by
    unfold Rs at h ⊢
    obtain ⟨as, e⟩ := h
    exact ⟨as, e⟩
  | .obj a, v, h => by unfold Rs at h ⊢; exact h
  | .scr ns, v, h => by
    unfold Rs at h ⊢
    obtain ⟨a, e, h1, h2⟩ := h
    exact ⟨a, e, s.sqL h1, h2⟩
theorem Rl.sim (s : Sim G G') : ∀ (ds : List PV) (xs : List V), Rl K pl G ds xs → Rl K pl G' ds xs
  | [], xs, h => by unfold Rl at h ⊢; exact h
  | d :: ds, xs, h => by
    unfold Rl at h ⊢
    obtain ⟨y, r, e, h1, h2⟩ := h
    exact ⟨y, r, e, Rs.sim s d y h1, Rl.sim s ds r h2⟩
theorem Rk.sim (s : Sim G G') : ∀ (ds : List (Key × PV)) (xs : List (Key × V)), Rk K pl G ds xs → Rk K pl G' ds xs
  | [], xs, h => by unfold Rk at h ⊢; exact h
  | (k, d) :: ds, xs, h => by
    unfold Rk at h ⊢
    obtain ⟨y, r, e, h1, h2⟩ := h
    exact ⟨y, r, e, Rs.sim s d y h1, Rk.sim s ds r h2⟩
theorem Rt.sim (s : Sim G G') : ∀ (ds : List (List Key × PV)) (xs : List (List Key × V)), Rt K pl G ds xs → Rt K pl G' ds xs
  | [], xs, h => by unfold Rt at h ⊢; exact h
  | (k, d) :: ds, xs, h => by
    unfold Rt at h ⊢
    obtain ⟨y, r, e, h1, h2⟩ := h
    exact ⟨y, r, e, Rs.sim s d y h1, Rt.sim s ds r h2⟩
end
end
theorem Rf.sim {K : PySem.W.Frag} {pl : PL} {G G' : Hp} {fs : List (Str × PV)} {xs : List (Str × V)} (s : Sim G G') (h : Rf K pl G fs xs) : Rf K pl G' fs xs := fun f d e => by
  obtain ⟨x, e1, e2⟩ := h f d e
  exact ⟨x, e1, Rs.sim s _ _ e2⟩
theorem RV.sim {K : PySem.W.Frag} {pl : PL} {G G' H H' : Hp} {vl : Vl} {v : V} {A : List Addr} (h : RV K pl G H vl v A) (s : Sim G G') (k : ∀ a ∈ A, ∀ o, H a = some o → H' a = some o) : RV K pl G' H' vl v A := by
  cases vl with
  | sh d => exact ⟨h.1, Rs.sim s _ _ h.2⟩
  | ol ds =>
    obtain ⟨a, xs, e, rfl, h1, h2, h3⟩ := h
    exact ⟨a, xs, e, rfl, k a (by simp) _ h1, Rl.sim s _ _ h2, h3⟩
  | oo dss =>
    obtain ⟨a, as, e, rfl, h1, h2, h2', h3⟩ := h
    refine ⟨a, as, e, rfl, k a (by simp) _ h1, h2, h2', fun i b ds e1 e2 => ?_⟩
    obtain ⟨xs, q1, q2, q3⟩ := h3 i b ds e1 e2
    exact ⟨xs, k b (List.mem_cons_of_mem _ (List.mem_of_getElem? e1)) _ q1, Rl.sim s _ _ q2, q3⟩
  | oK kvs =>
    obtain ⟨a, xs, e, rfl, h1, h2, h3⟩ := h
    exact ⟨a, xs, e, rfl, k a (by simp) _ h1, Rk.sim s _ _ h2, h3⟩
  | oT kvs =>
    obtain ⟨a, xs, e, rfl, h1, h2, h3⟩ := h
    exact ⟨a, xs, e, rfl, k a (by simp) _ h1, Rt.sim s _ _ h2, h3⟩
  | er e a dd =>
    obtain ⟨h1, h2, xs, h3, h4⟩ := h
    exact ⟨h1, h2, xs, s.xd h3, Rf.sim s h4⟩
  | «at» d a ds =>
    obtain ⟨xs, rfl, h1, h2, h3, h4⟩ := h
    exact ⟨xs, rfl, Rs.sim s _ _ h1, k a (by simp) _ h2, Rl.sim s _ _ h3, h4⟩
  | atK d a ds =>
    obtain ⟨xs, rfl, h1, h2, h3, h4⟩ := h
    exact ⟨xs, rfl, Rs.sim s _ _ h1, k a (by simp) _ h2, Rk.sim s _ _ h3, h4⟩
  | oD kvs =>
    obtain ⟨a, as, e, rfl, h1, h2, h2', h3⟩ := h
    refine ⟨a, as, e, rfl, k a (by simp) _ h1, h2, h2', fun i b ds e1 e2 => ?_⟩
    obtain ⟨xs, q1, q2, q3⟩ := h3 i b ds e1 e2
    exact ⟨xs, k b (List.mem_cons_of_mem _ (List.mem_of_getElem? e1)) _ q1, Rl.sim s _ _ q2, q3⟩
  | oE kvs =>
    obtain ⟨a, as, e, rfl, h1, h2, h2', h3⟩ := h
    refine ⟨a, as, e, rfl, k a (by simp) _ h1, h2, h2', fun i b ds e1 e2 => ?_⟩
    obtain ⟨xs, q1, q2, q3⟩ := h3 i b ds e1 e2
    exact ⟨xs, k b (List.mem_cons_of_mem _ (List.mem_of_getElem? e1)) _ q1, Rl.sim s _ _ q2, q3⟩
  | ob d a dx C fs =>
    obtain ⟨xs, rfl, h1, h2, h3, h4, h5⟩ := h
    exact ⟨xs, rfl, Rs.sim s _ _ h1, k a (by simp) _ h2, k dx (by simp) _ h3, h4, Rl.sim s _ _ h5⟩
section
variable {K : PySem.W.Frag} {PO : POk} {B G0 G H : Hp} {pl : PL} {σ : L2.St} {ρ : En} {d : Addr} {x y : HO}
theorem sim_upd (hx : G d = some x) (c : Cor x y) : Sim G (upd G d y) := fun a o e => by
  by_cases z : a = d
  · subst z
    rw [hx] at e
    cases e
    exact ⟨y, upd_same, c⟩
  · exact ⟨o, by rw [upd_ne z]; exact e, .inl rfl⟩
theorem Ok.chg (o : Ok PO G H pl) (hx : G d = some x) : Ok PO (upd G d y) (upd H d y) pl := by
  have np : ∀ a ∈ pads pl, a ≠ d := fun a ha z => by have := o.free a ha; rw [z, hx] at this; cases this
  refine ⟨fun b ob e => ?_, fun v as e => ?_⟩
  · by_cases hb : b = d
    · subst hb; rw [upd_same] at e ⊢; exact e
    · rw [upd_ne hb] at e ⊢; exact o.sub b ob e
  · obtain ⟨p1, p2⟩ := o.pok v as e
    have np' : ∀ a ∈ as, a ≠ d := fun a ha => np a (by rw [e]; exact ha)
    exact ⟨PO.ext v as H _ p1 fun a ha => upd_ne (np' a ha), fun a ha => by rw [upd_ne (np' a ha)]; exact p2 a ha⟩
theorem Rel.chg {B2 G2 : Hp} (r : Rel K PO B G0 G H pl σ ρ) (hx : G d = some x) (c : Cor x y) (hb : ∀ b, b ≠ d → B2 b = B b) (hbd : B2 d = none ∨ B2 d = some y) (hbn : B2 d = none → B d = none) (hg : ∀ b, b ≠ d → G2 b = G0 b) (hgd : Oth B2 d → G2 d = some y) :
    Rel K PO B2 G2 (upd G d y) (upd H d y) pl σ ρ := by
  have s := sim_upd hx c
  refine ⟨r.ok.chg hx, fun a ha => ?_, fun a ha => ?_, fun b o e hbp => ?_, r.len, ?_⟩
  · by_cases z : a = d
    · subst z; rw [upd_same, hgd ha]
    · have ha' : Oth B a := ⟨by rw [← hb a z]; exact ha.1, fun xs => by rw [← hb a z]; exact ha.2 xs⟩
      rw [upd_ne z, hg a z]; exact r.gb a ha'
  · by_cases z : a = d
    · subst z; rw [upd_same]; simp
    · rw [upd_ne z]; exact r.on a (by rw [← hb a z]; exact ha)
  · by_cases z : b = d
    · subst z
      rw [upd_same]
      rcases hbd with q | q
      · rw [q] at e; cases e
      · rw [q] at e; exact e
    · rw [upd_ne z]; exact r.fr b o (by rw [← hb b z]; exact e) hbp
  · obtain ⟨fp, f1, f2, f3, f4⟩ := r.ex
    have off : ∀ i a, a ∈ fp i → a ≠ d := fun i a ha z => by have := (f4 i a ha).1; rw [z, hx] at this; cases this
    refine ⟨fp, fun i vl e => ?_, f2, f3, fun i a ha => ?_⟩
    · obtain ⟨v, e1, e2⟩ := f1 i vl e
      exact ⟨v, e1, e2.sim s fun a ha o eo => by rw [upd_ne (off i a ha)]; exact eo⟩
    · obtain ⟨q1, q2, q3, q4⟩ := f4 i a ha
      have := off i a ha
      exact ⟨by rw [upd_ne this]; exact q1, by rw [hb a this]; exact q2, q3, by rw [upd_ne this]; exact q4⟩
/-- back again -/
theorem Rel.back {G1 H1 Gb Bb : Hp} {pl1 : PL} {σ1 : L2.St} {ρ1 : En} (r0 : Rel K PO B G0 G H pl σ ρ) (hx : G d = some x) (nt : ∀ xs, x ≠ .tup xs) (c : Cor x y) (sg : Same (upd G d y) G1)
    (hBb : ∀ b, b ≠ d → Bb b = B b) (hBd : B d = none → Bb d = none) (hBe : B d ≠ none → Bb d ≠ none) (hGb : ∀ b, b ≠ d → Gb b = G0 b) (r : Rel K PO Bb Gb G1 H1 pl1 σ1 ρ1) :
    Same G (upd G1 d x) ∧ Rel K PO B G0 (upd G1 d x) (upd H1 d x) pl1 σ1 ρ1 := by
  have h1 : G1 d = some y := sg d y upd_same
  have np : d ∉ pads pl := fun z => by have := r0.ok.free d z; rw [hx] at this; cases this
  have hH : H d = some x := r0.ok.sub d x hx
  refine ⟨fun b o e => ?_, r.chg h1 c.symm (fun b z => (hBb b z).symm) ?_ (fun z => hBd z) (fun b z => (hGb b z).symm) fun z => ?_⟩
  · by_cases z : b = d
    · subst z; rw [upd_same, ← hx, e]
    · rw [upd_ne z]; exact sg b o (by rw [upd_ne z]; exact e)
  · cases e : B d with
    | none => exact .inl rfl
    | some o =>
      have := r0.fr d o e np
      rw [hH] at this
      exact .inr this.symm
  · rw [← r0.gb d z, hx]
theorem Dct.nt {u : HO} (h : Dct u) : ∀ xs, u ≠ .tup xs := fun xs z => by rcases h with ⟨_, rfl⟩ | ⟨_, rfl⟩ <;> cases z
theorem Dct.nf {u : HO} (h : Dct u) : ∀ b v, u ≠ .frz b v := fun b v z => by rcases h with ⟨_, rfl⟩ | ⟨_, rfl⟩ <;> cases z
theorem Dct.mut {u : HO} (h : Dct u) : Mut (some u) := by rcases h with ⟨_, rfl⟩ | ⟨_, rfl⟩ <;> exact trivial
end
def tLockQ (t : TS) : TS := fun D σ H => tLock t D σ H ∨ t D σ H
theorem ps_lockQ {X : Cx} {st : Stmt} {t : TS} (h : PS X st t) : PS X st (tLockQ t) := ⟨fun pins s σ H D I hw => by
  rcases hw with hw | hw
  · exact (ps_lock h).run pins s σ H D I hw
  · exact h.run pins s σ H D I hw⟩
section
variable {K : PySem.W.Frag} {PO : POk} {X : Cx} {W : WX}
theorem lock_go {B G0 G H : Hp} {pl : PL} {σ : L2.St} {ρ : En} {D : Ends} {P : PEnds} {t : TS} {u : HO} {a : Addr} (r : Rel K PO B G0 G H pl σ ρ) (e : EOk K PO W B G0 G pl D P) (hu : Dct u) (hd : Rd G a u)
    (k : ∀ {B' G0' G' H' : Hp} {D' : Ends} {o : Obj}, Sim G G' → G' a = some (.frz o u) → Rel K PO B' G0' G' H' pl σ ρ → EOk K PO W B' G0' G' pl D' { P with er := fun _ _ => False } → t D' σ H') : tLockQ t D σ H := by
  rcases hd with h | ⟨o, h⟩
  · refine .inl ⟨a, u, r.ok.sub a u h, hu.mut, fun od => ?_⟩
    have c : Cor u (.frz od u) := .inr ⟨u, hu, .inl rfl, .inr ⟨od, rfl⟩⟩
    have np : a ∉ pads pl := fun z => by have := r.ok.free a z; rw [h] at this; cases this
    let B' : Hp := fun b => if b = a then (if B a = none then none else some (.frz od u)) else B b
    have b1 : ∀ b, b ≠ a → B' b = B b := fun b z => if_neg z
    have b2 : B' a = if B a = none then none else some (.frz od u) := if_pos rfl
    have b3 : B a = none → B' a = none := fun z => by rw [b2, if_pos z]
    have b4 : B a ≠ none → B' a ≠ none := fun z => by rw [b2, if_neg z]; simp
    have r' : Rel K PO B' (upd G0 a (.frz od u)) (upd G a (.frz od u)) (upd H a (.frz od u)) pl σ ρ := by
      refine r.chg h c b1 ?_ (fun z => ?_) (fun b z => upd_ne z) fun _ => upd_same
      · rw [b2]
        by_cases z : B a = none
        · rw [if_pos z]; exact .inl rfl
        · rw [if_neg z]; exact .inr rfl
      · cases e : B a with
        | none => rfl
        | some o => exact absurd z (b4 (by rw [e]; simp))
    have bk : ∀ {G1 H1 : Hp} {pl1 : PL} {σ1 : L2.St} {ρ1 : En}, Same (upd G a (.frz od u)) G1 → Rel K PO B' (upd G0 a (.frz od u)) G1 H1 pl1 σ1 ρ1 → H1 a = some (.frz od u) ∧ Same G (upd G1 a u) ∧ Rel K PO B G0 (upd G1 a u) (upd H1 a u) pl1 σ1 ρ1 := fun sg r1 => by
      refine ⟨r1.ok.sub a _ (sg a _ upd_same), ?_⟩
      exact r.back h hu.nt c sg b1 b3 b4 (fun b z => upd_ne z) r1
    refine k (sim_upd h c) upd_same r' ⟨fun {G1 H1 pl1 σ1 ρ1} sg le r1 q => ?_, fun {G1 H1 pl1 σ1 ρ1} sg le r1 q => ?_, fun {G1 H1 pl1 σ1 ρ1} sg le r1 q => ?_, fun {G1 H1 pl1 v vl} sg le r1 q => ?_, fun _ _ _ _ _ q => q.elim⟩
    · obtain ⟨z1, z2, z3⟩ := bk sg r1
      exact ⟨z1, e.nx z2 le z3 q⟩
    · obtain ⟨z1, z2, z3⟩ := bk sg r1
      exact ⟨z1, e.bk z2 le z3 q⟩
    · obtain ⟨z1, z2, z3⟩ := bk sg r1
      exact ⟨z1, e.ct z2 le z3 q⟩
    · obtain ⟨z1, z2, z3⟩ := bk sg r1
      exact ⟨z1, e.rt z2 le z3 q⟩
  · exact .inr (k (Sim.refl _) h r ⟨e.nx, e.bk, e.ct, e.rt, fun _ _ _ _ _ q => q.elim⟩)
theorem for_at {g : TG} {tb : TS} {ws : List Nat} {q : PV → En → (En → Prop) → Prop} {p : PSt} (hg : SG K PO g ws q) (hb : SS K PO W tb p)
    {B G0 G H G1 H1 : Hp} {pl pl1 : PL} {σ : L2.St} {ρ : En} {D : Ends} {P : PEnds} {J : It} {ds : List PV} (r : Rel K PO B G0 G H pl σ ρ) (e : EOk K PO W B G0 G pl D P)
    (s1 : Stp PO G H pl G1 H1 pl1) (it : IterOk K PO (Frz G1 pl1) J ds) (hl : ds.length ≤ 16777216) (hp1 : forQ q p P ρ ds) :
    ∃ W : Nat → Nat → L2.St → Hp → Prop, (∃ m, W 0 m σ H1) ∧ ∀ i m σ H, W i m σ H →
  (J.stop i H ∧ D.nx σ H) ∨ (J.go i H ∧ ∃ N : L2.St → Hp → Prop, (∀ σ' H', N σ' H' → ∃ m', m' < m ∧ W (i + 1) m' σ' H') ∧ ∀ x H', J.yld i H x H' → g x σ H' fun σ2 H2 => tb { D with nx := N, ct := N, bk := D.nx } σ2 H2) := by
  obtain ⟨I, i0, turn, fin⟩ := hp1
  refine ⟨fun i m σ H => m = ds.length - i ∧ i ≤ ds.length ∧ ∃ G2 pl2 ρ2, Same G1 G2 ∧ plLe pl1 pl2 ∧ Rel K PO B G0 G2 H pl2 σ ρ2 ∧ I i ρ2, ⟨ds.length, by simp, Nat.zero_le _, G1, pl1, ρ, Same.refl _, plLe.refl _, r.step s1, i0⟩, ?_⟩
  rintro i m σ2 H2 ⟨rfl, hle, G2, pl2, ρ2, s2, l2, r2, hI⟩
  obtain ⟨st, go⟩ := it i G2 H2 pl2 r2.ok ⟨s2, l2⟩
  by_cases hlt : i < ds.length
  · obtain ⟨g1, g2⟩ := go ds[i] (List.getElem?_eq_getElem hlt)
    refine .inr ⟨g1, fun σ' H' => ∃ G3 pl3 ρ3, Same G1 G3 ∧ plLe pl1 pl3 ∧ Rel K PO B G0 G3 H' pl3 σ' ρ3 ∧ I (i + 1) ρ3, fun σ' H' n => ⟨ds.length - (i + 1), by omega, rfl, hlt, n⟩, fun x H' y => ?_⟩
    obtain ⟨G3, s3, hd⟩ := g2 x H' y
    refine hg (r2.step s3) hd (turn i _ ρ2 (List.getElem?_eq_getElem hlt) hI) fun σ4 ρ4 r4 _ _ hp4 => ?_
    have e4 := e.mono ((s1.g.trans s2).trans s3.g) ((s1.le.trans l2).trans s3.le)
    refine hb (P := { P with nx := I (i + 1), ct := I (i + 1), bk := P.nx }) r4 ⟨fun a b r' q' => ?_, fun a b r' q' => e4.nx a b r' q', fun a b r' q' => ?_, e4.rt, e4.er⟩ hp4
    · exact ⟨_, _, _, (s2.trans s3.g).trans a, (l2.trans s3.le).trans b, r', q'⟩
    · exact ⟨_, _, _, (s2.trans s3.g).trans a, (l2.trans s3.le).trans b, r', q'⟩
  · have hi : i = ds.length := by omega
    subst hi
    exact .inl ⟨st rfl, e.nx (s1.g.trans s2) (s1.le.trans l2) r2 (fin ρ2 hI)⟩

theorem lc_at {wi : TI} {g : TG} {tt : TT} {te : TE} {vs : List Nat} {ws : List Nat} {q : PV → En → (En → Prop) → Prop} {pt : PX Bool} {pe : PX PV} (hw : ∀ j ∈ ws, j ∈ vs) (hg : SG K PO g ws q) (ht : ST K PO tt pt) (he : SX rS K PO te pe)
    {B G0 G H G1 H1 : Hp} {pl pl1 : PL} {σ : L2.St} {ρ : En} {Q : VK} {post : Vl → Prop} {J : It} {ds : List PV} (r : Rel K PO B G0 G H pl σ ρ)
    (hq : ∀ v vl A G' H' pl', Stp PO G H pl G' H' pl' → RV K pl' G' H' vl v A → A.Nodup → (∀ a ∈ A, H a = none ∧ G' a = none ∧ a ∉ pads pl') → post vl → Q v H')
    (s1 : Stp PO G H pl G1 H1 pl1) (it : IterOk K PO (Fol PO G1 H1 pl1) J ds) (hl : ds.length ≤ 16777216) (hp1 : lcQ q pt pe vs ρ post ds) :
    ∀ D, H1 D = none → ∃ W : Nat → Nat → Hp → Prop, (∃ m, W 0 m (upd H1 D (.lst []))) ∧ ∀ i m H, W i m H →
  (J.stop i H ∧ Q (.ref D) H) ∨ (J.go i H ∧ ∃ Nx : Hp → Prop, (∀ H', Nx H' → ∃ m', m' < m ∧ W (i + 1) m' H') ∧ ∀ x H', J.yld i H x H' → g x (wipe σ vs) H' fun σ2 H2 => wipe σ2 vs = wipe σ vs ∧ tt σ2 H2 fun b H3 =>
    if b = true then te σ2 H3 fun y H4 => ∃ acc, H4 D = some (.lst acc) ∧ acc.length < sizeLine ∧ Nx (upd H4 D (.lst (acc ++ [y]))) else Nx H3) := by
  obtain ⟨I, i0, turn, fin⟩ := hp1
  intro Dl hD
  have r1 := r.step s1
  have sD : Stp PO G1 H1 pl1 G1 (upd H1 Dl (.lst [])) pl1 := Stp.tmp s1.ok hD
  have hp1 : Dl ∉ pads pl1 := fun z => s1.ok.live Dl z hD
  refine ⟨fun i m H' => m = ds.length - i ∧ i ≤ ds.length ∧ ∃ G2 pl2 ys xs, Rel K PO B G0 G2 H' pl2 σ ρ ∧ Stp PO G1 H1 pl1 G2 H' pl2 ∧ H' Dl = some (.lst xs) ∧ G2 Dl = none ∧ Dl ∉ pads pl2 ∧ Rl K pl2 G2 ys xs ∧ ys.length ≤ i ∧ I i ys,
    ⟨ds.length, by simp, Nat.zero_le _, G1, pl1, [], [], r1.step sD, sD, upd_same, s1.ok.sub.free hD, hp1, Rl.nil, Nat.le_refl _, i0⟩, ?_⟩
  rintro i m H2 ⟨rfl, hle, G2, pl2, ys, xs, r2, s2, h1, h2, h3, h4, h5, hI⟩
  obtain ⟨st, go⟩ := it i G2 H2 pl2 r2.ok s2
  by_cases hlt : i < ds.length
  · obtain ⟨g1, g2⟩ := go ds[i] (List.getElem?_eq_getElem hlt)
    refine .inr ⟨g1, fun H' => ∃ G2 pl2 ys xs, Rel K PO B G0 G2 H' pl2 σ ρ ∧ Stp PO G1 H1 pl1 G2 H' pl2 ∧ H' Dl = some (.lst xs) ∧ G2 Dl = none ∧ Dl ∉ pads pl2 ∧ Rl K pl2 G2 ys xs ∧ ys.length ≤ i + 1 ∧ I (i + 1) ys, fun H' n => ⟨ds.length - (i + 1), by omega, rfl, hlt, n⟩, fun x H3 y => ?_⟩
    obtain ⟨G3, s3, hd⟩ := g2 x H3 y
    have r3 := r2.step s3
    refine hg (r3.wipe vs) hd (turn i _ ys (List.getElem?_eq_getElem hlt) h5 hI) fun σ4 ρ4 r4 l4 n4 hp4 => ?_
    refine ⟨?_, ?_⟩
    · rw [wipe_same l4 (fun j hj => n4 j fun z => hj (hw j z)), wipe_wipe]
    have k3 : H3 Dl = some (.lst xs) := s3.h Dl _ h1 h3
    have k3n : G3 Dl = none := (s3.gn Dl (.lst h1)).trans h2
    refine ht r4 hp4 fun b G5 H5 pl5 s5 hp5 => ?_
    have k5 : H5 Dl = some (.lst xs) := s5.h Dl _ k3 (s5.off (by rw [k3]; simp) h3)
    have k5n : G5 Dl = none := (s5.gn Dl (.lst k3)).trans k3n
    have k5p : Dl ∉ pads pl5 := s5.off (by rw [k3]; simp) h3
    have s25 := s3.trans r2.ok s5
    cases b with
    | false =>
      exact ⟨G5, pl5, ys, xs, r3.step s5, s2.trans s1.ok s25, k5, k5n, k5p, Rl.mono s25.g s25.le _ _ h4, by omega, hp5⟩
    | true =>
      refine he (r4.step s5) hp5 fun y d G6 H6 pl6 s6 hd6 hp6 => ?_
      have k6 : H6 Dl = some (.lst xs) := s6.h Dl _ k5 (s6.off (by rw [k5]; simp) k5p)
      have k6n : G6 Dl = none := (s6.gn Dl (.lst k5)).trans k5n
      have k6p : Dl ∉ pads pl6 := s6.off (by rw [k5]; simp) k5p
      have s26 := s25.trans r2.ok s6
      have h4' := Rl.mono s26.g s26.le _ _ h4
      have hlen := h4.len
      have r6 := r2.step s26
      have s16 := s2.trans s1.ok s26
      refine ⟨xs, k6, by rw [line_eq]; omega, G6, pl6, ys ++ [d], xs ++ [y], ?_, ?_, upd_same, k6n, k6p, h4'.snoc hd6, by rw [List.length_append, List.length_singleton]; omega, hp6⟩
      · have hB : B Dl = none := by
          cases eB : B Dl with
          | none => rfl
          | some o => exact absurd hD (r1.on Dl (by rw [eB]; simp))
        have hext : Ok PO G6 (upd H6 Dl (.lst (xs ++ [y]))) pl6 := by
          refine ⟨fun b o eb => ?_, fun v as ep => ⟨PO.ext _ _ _ _ (r6.ok.pok v as ep).1 fun a ha => upd_ne fun z => ?_, (r6.ok.pok v as ep).2⟩⟩
          · rw [upd_ne fun z => by subst z; rw [k6n] at eb; cases eb]
            exact r6.ok.sub b o eb
          · subst z
            exact k6p (by rw [ep]; exact ha)
        refine ⟨hext, r6.gb, fun a ha => ?_, fun b o eb hb => ?_, r6.len, ?_⟩
        · by_cases z : a = Dl
          · subst z; rw [upd_same]; simp
          · rw [upd_ne z]; exact r6.on a ha
        · rw [upd_ne fun z => by subst z; rw [hB] at eb; cases eb]
          exact r6.fr b o eb hb
        · -- the owned things are none of Dl
          obtain ⟨fp, f1, f2, f3, f4⟩ := r1.ex2
          have dj : ∀ i a, a ∈ fp i → a ≠ Dl := fun i a ha z => (f4 i a ha).2.2.2.1 (z ▸ hD)
          refine ⟨fp, fun j vl' ej => ?_, f2, f3, fun j a ha => ?_⟩
          · obtain ⟨v', e1, e2⟩ := f1 j vl' ej
            refine ⟨v', e1, e2.mono s16.g s16.le fun a ha o eo => ?_⟩
            rw [upd_ne (dj j a ha)]
            exact s16.h a o eo (s16.off (f4 j a ha).2.2.2.1 (f4 j a ha).2.2.1)
          · obtain ⟨q1, q2, q3, q4⟩ := f4 j a ha
            rw [upd_ne (dj j a ha)]
            exact ⟨(s16.gn a q4).trans q1, q2, s16.off q4.1 q3, s16.on s1.ok q4.1⟩
      · refine ⟨s16.g, s16.gn, fun b o eb hb => ?_, s16.pl, ?_⟩
        · rw [upd_ne (ne_of_none eb hD)]
          exact s16.h b o eb hb
        · refine ⟨fun b o eb => ?_, fun v as ep => ⟨PO.ext _ _ _ _ (r6.ok.pok v as ep).1 fun a ha => upd_ne fun z => ?_, (r6.ok.pok v as ep).2⟩⟩
          · rw [upd_ne fun z => by subst z; rw [k6n] at eb; cases eb]
            exact r6.ok.sub b o eb
          · subst z
            exact k6p (by rw [ep]; exact ha)
  · have hi : i = ds.length := by omega
    subst hi
    refine .inl ⟨st rfl, ?_⟩
    refine hq (.ref Dl) (.ol ys) [Dl] G2 H2 pl2 (s1.trans r.ok s2) ⟨Dl, xs, rfl, rfl, h1, h4, by omega⟩ (by simp) (fun a ha => ?_) (fin ys h5 hI)
    rw [List.mem_singleton.mp ha]
    exact ⟨fresh_on r.ok s1 hD, h2, h3⟩

/-! ### the keys of a dict that stands still -/
def shortK : PV → Prop
  | .str l => l.length ≤ 16777216
  | _ => True
/-- ds are the keys of the dict d -/
inductive Kys : PV → List PV → Prop
  | K {kvs : List (Key × PV)} {ds : List PV} (h : keysOf ds = some (kvs.map (·.1))) (s : ∀ d ∈ ds, shortK d) : Kys (.dK kvs) ds
  | T {kvs : List (List Key × PV)} {dss : List (List PV)} (hl : dss.length = kvs.length) (h : ∀ (i : Nat) k v, kvs[i]? = some (k, v) → ∃ ds, dss[i]? = some ds ∧ keysOf ds = some k ∧ ds.length ≤ 16777216 ∧ ∀ d ∈ ds, shortK d) : Kys (.dT kvs) (dss.map .tup)
theorem key_rs {pl : PL} {G : Hp} {d : PV} {k : Key} (e : keyOf d = some k) (s : shortK d) : Rs K pl G d (kV k) := by
  cases d with
  | int i => cases e; exact Rs.int
  | str l => cases e; exact Rs.str s
  | _ => cases e
theorem keys_rl {pl : PL} {G : Hp} : ∀ {ds : List PV} {ks : List Key}, keysOf ds = some ks → (∀ d ∈ ds, shortK d) → Rl K pl G ds (ks.map kV)
  | [], ks, e, _ => by cases e; exact Rl.nil
  | d :: ds, ks, e, s => by
    unfold keysOf at e
    cases e1 : keyOf d with
    | none => rw [e1] at e; cases e
    | some k =>
      cases e2 : keysOf ds with
      | none => rw [e1, e2] at e; cases e
      | some ks' =>
        rw [e1, e2] at e
        cases e
        exact Rl.cons (key_rs e1 (s d List.mem_cons_self)) (keys_rl e2 fun x hx => s x (List.mem_cons_of_mem _ hx))
theorem keysOf_get : ∀ {ds : List PV} {ks : List Key} {i : Nat} {d : PV}, keysOf ds = some ks → ds[i]? = some d → ∃ k, ks[i]? = some k ∧ keyOf d = some k
  | [], ks, i, d, e, q => by simp at q
  | d :: ds, ks, i, d', e, q => by
    unfold keysOf at e
    cases e1 : keyOf d with
    | none => rw [e1] at e; cases e
    | some k =>
      cases e2 : keysOf ds with
      | none => rw [e1, e2] at e; cases e
      | some ks' =>
        rw [e1, e2] at e
        cases e
        cases i with
        | zero => cases q; exact ⟨k, rfl, e1⟩
        | succ i => exact keysOf_get (i := i) e2 q
theorem keysOf_len : ∀ {ds : List PV} {ks : List Key}, keysOf ds = some ks → ds.length = ks.length
  | [], ks, e => by cases e; rfl
  | d :: ds, ks, e => by
    unfold keysOf at e
    cases e1 : keyOf d with
    | none => rw [e1] at e; cases e
    | some k =>
      cases e2 : keysOf ds with
      | none => rw [e1, e2] at e; cases e
      | some ks' =>
        rw [e1, e2] at e
        cases e
        rw [List.length_cons, List.length_cons, keysOf_len e2]
theorem iter_keys {L : Hp → Hp → PL → Prop} {a : Addr} {o : Obj} {xs : List (Key × V)} {ds : List PV} (h : ∀ G H pl, Ok PO G H pl → L G H pl → G a = some (.frz o (.dK xs))) (hk : keysOf ds = some (xs.map (·.1))) (s : ∀ d ∈ ds, shortK d) : IterOk K PO L (Itk a o xs) ds :=
  iter_plain fun i G H pl ok hl => by
    have hH := ok.sub a _ (h G H pl ok hl)
    have hlen := keysOf_len hk
    rw [List.length_map] at hlen
    refine ⟨fun e => ⟨hH, by omega⟩, fun d e => ?_⟩
    have hi := (List.getElem?_eq_some_iff.mp e).1
    refine ⟨⟨hH, by omega⟩, fun x H' q => ?_⟩
    obtain ⟨rfl, k, v, e1, rfl⟩ := q
    obtain ⟨k', e2, e3⟩ := keysOf_get hk e
    rw [List.getElem?_map, e1] at e2
    cases e2
    exact ⟨rfl, key_rs e3 (s d (List.mem_of_getElem? e))⟩
theorem iter_keysT {L : Hp → Hp → PL → Prop} {a : Addr} {o : Obj} {xs : List (List Key × V)} {dss : List (List PV)} (h : ∀ G H pl, Ok PO G H pl → L G H pl → G a = some (.frz o (.dT xs))) (hl : dss.length = xs.length)
    (hk : ∀ (i : Nat) k v, xs[i]? = some (k, v) → ∃ ds, dss[i]? = some ds ∧ keysOf ds = some k ∧ ds.length ≤ 16777216 ∧ ∀ d ∈ ds, shortK d) : IterOk K PO L (Itkt a o xs) (dss.map .tup) := fun i G H pl ok hL => by
  have hH := ok.sub a _ (h G H pl ok hL)
  rw [List.length_map]
  refine ⟨fun e => ⟨hH, by omega⟩, fun d e => ?_⟩
  have hi := (List.getElem?_eq_some_iff.mp e).1
  rw [List.length_map] at hi
  refine ⟨⟨hH, by omega⟩, fun x H' q => ?_⟩
  obtain ⟨rfl, k, v, q, e1, rfl, hq⟩ := q
  obtain ⟨ds, e2, e3, e4, e5⟩ := hk i k v e1
  rw [List.getElem?_map, e2] at e
  cases e
  refine ⟨_, Stp.adopt (A := [q]) ok (fun b hb => ⟨k.map kV, by rw [List.mem_singleton.mp hb]; exact hq⟩), Rs.tup (xs := k.map kV) (by rw [join_in (List.mem_singleton.mpr rfl)]; exact hq) (keys_rl e3 e5) e4⟩
/-! ### for k in d, the dict a name's -/
def pForK (i : Nat) (q : PV → En → (En → Prop) → Prop) (p : PSt) : PSt := fun P ρ => ∃ d ds, ρ[i]? = some (some (.sh d)) ∧ Kys d ds ∧ forQ q p { P with er := fun _ _ => False } ρ ds
theorem ss_forK {i : Nat} {g : TG} {tb : TS} {ws : List Nat} {q : PV → En → (En → Prop) → Prop} {p : PSt} (hg : SG K PO g ws q) (hb : SS K PO W tb p) : SS K PO W (tLockQ (tFor (iKeys (tVar i)) g tb)) (pForK i q p) := fun {B G0 G H pl σ ρ D P} r e hp => by
  obtain ⟨d, ds, ei, hk, hp⟩ := hp
  obtain ⟨v, A, ev, e2, _⟩ := r.var ei
  have e2 := e2.2
  cases hk with
  | @K kvs ds hk hs =>
    obtain ⟨a, xs, rfl, h1, h2, h3⟩ := rs_dK e2
    have hkx := hk
    rw [← rk_keys h2] at hkx
    have hlen := keysOf_len hk
    rw [List.length_map] at hlen
    refine lock_go r e (.inl ⟨xs, rfl⟩) h1 fun {B' G0' G' H' D' o} s hG r' e' => ?_
    refine ⟨.ref a, ev, a, o, rfl, .inl ⟨xs, r'.ok.sub a _ hG, ?_⟩⟩
    exact for_at hg hb r' e' (Stp.refl r'.ok) (iter_keys (fun G2 H2 pl2 ok hL => hL.1 a _ hG) hkx hs) (by omega) hp
  | @T kvs dss hl hk =>
    obtain ⟨a, xs, rfl, h1, h2, h3⟩ := rs_dT e2
    have hkeys := rt_keys h2
    have hxl : xs.length = kvs.length := by have := congrArg List.length hkeys; rwa [List.length_map, List.length_map] at this
    refine lock_go r e (.inr ⟨xs, rfl⟩) h1 fun {B' G0' G' H' D' o} s hG r' e' => ?_
    refine ⟨.ref a, ev, a, o, rfl, .inr ⟨xs, r'.ok.sub a _ hG, ?_⟩⟩
    refine for_at hg hb r' e' (Stp.refl r'.ok) (iter_keysT (fun G2 H2 pl2 ok hL => hL.1 a _ hG) (by omega) fun j k v ej => ?_) (by rw [List.length_map]; omega) hp
    have hj : (xs.map (·.1))[j]? = some k := by rw [List.getElem?_map, ej]; rfl
    rw [hkeys, List.getElem?_map] at hj
    obtain ⟨⟨k', w⟩, e3, e4⟩ := Option.map_eq_some_iff.mp hj
    cases e4
    exact hk j _ w e3
theorem qs_forK {i : Nat} {x : Str} {tg : Expr} {xpos : Pos} {body : List Stmt} {g : TG} {tb : TS} {pos : Pos} {ws : List Nat} {q : PV → En → (En → Prop) → Prop} {p : PSt} (hp : PassesOwn (model X.prog X.w) X.A X.env X.xe) (hc : X.calm = true) (hv : PE X (.Name x xpos) (tVar i)) (hg : QG K PO X tg g ws q) (hb : QB K PO W X body tb p)
    (hset : ∀ v, foldedSetIterable (.Name x xpos) X.env v = pure v := by intro _; rfl) : QS K PO W X (.For tg (.Name x xpos) body [] pos) (tLockQ (tFor (iKeys (tVar i)) g tb)) (pForK i q p) := ⟨ps_lockQ (ps_for hp hc (pi_keys hv) hg.pe hb.pe hset), ss_forK hg.sd hb.sd⟩
end
section
variable {ρ : En} {P : PEnds} {i : Nat}
def fkQ (q : PV → En → (En → Prop) → Prop) (p : PSt) (P : PEnds) (ρ : En) (d : PV) : Prop := ∃ ds, Kys d ds ∧ forQ q p { P with er := fun _ _ => False } ρ ds
theorem u_fk {d : PV} {q : PV → En → (En → Prop) → Prop} {p : PSt} (h1 : ρ[i]? = some (some (.sh d))) (h : fkQ q p P ρ d) : pForK i q p P ρ := by
  obtain ⟨ds, h2, h3⟩ := h
  exact ⟨d, ds, h1, h2, h3⟩
/-- keys that are tuples, told one by one -/
theorem u_forKT {α : Type} {xs : List α} {kf : α → List Key} {vf : α → PV} (df : α → List PV) {q : PV → En → (En → Prop) → Prop} {p : PSt} (hk : ∀ z ∈ xs, keysOf (df z) = some (kf z) ∧ (df z).length ≤ 16777216 ∧ ∀ d ∈ df z, shortK d)
    (I : Nat → En → Prop) (h0 : I 0 ρ) (hs : ∀ j z ρ1, xs[j]? = some z → I j ρ1 → q (.tup (df z)) ρ1 fun ρ2 => p { P with er := fun _ _ => False, nx := I (j + 1), ct := I (j + 1), bk := P.nx } ρ2) (hd : ∀ ρ1, I xs.length ρ1 → P.nx ρ1) : fkQ q p P ρ (.dT (xs.map fun z => (kf z, vf z))) := by
  refine ⟨(xs.map df).map .tup, .T (by rw [List.length_map, List.length_map]) (fun j k v e => ?_), ?_⟩
  · rw [List.getElem?_map] at e
    obtain ⟨z, e1, e2⟩ := Option.map_eq_some_iff.mp e
    cases e2
    exact ⟨df z, by rw [List.getElem?_map, e1]; rfl, hk z (List.mem_of_getElem? e1)⟩
  · rw [List.map_map]
    exact u_forT I h0 hs hd
/-- plain keys -/
theorem u_forKK {α : Type} {xs : List α} {kf : α → Key} {vf : α → PV} (df : α → PV) {q : PV → En → (En → Prop) → Prop} {p : PSt} (hk : ∀ z ∈ xs, keyOf (df z) = some (kf z) ∧ shortK (df z))
    (I : Nat → En → Prop) (h0 : I 0 ρ) (hs : ∀ j z ρ1, xs[j]? = some z → I j ρ1 → q (df z) ρ1 fun ρ2 => p { P with er := fun _ _ => False, nx := I (j + 1), ct := I (j + 1), bk := P.nx } ρ2) (hd : ∀ ρ1, I xs.length ρ1 → P.nx ρ1) : fkQ q p P ρ (.dK (xs.map fun z => (kf z, vf z))) := by
  refine ⟨xs.map df, .K ?_ (fun d hd => ?_), u_forT I h0 hs hd⟩
  · rw [List.map_map]
    clear h0 hs hd
    induction xs with
    | nil => rfl
    | cons z xs ih =>
      rw [List.map_cons, List.map_cons]
      unfold keysOf
      rw [(hk z List.mem_cons_self).1, ih fun w hw => hk w (List.mem_cons_of_mem _ hw)]
      rfl
  · obtain ⟨z, hz, rfl⟩ := List.mem_map.mp hd
    exact (hk z hz).2
end
section
variable {α : Type} {ρ : En} {q : PV → En → (En → Prop) → Prop} {pe : PX PV} {vs : List Nat} {post : Vl → Prop}
/-- a comprehension over a range -/
theorem u_lcR {n : Nat} (g : Nat → PV) (h : ∀ (i : Nat) (R : PV → Prop), i < n → R (g i) → q (.int (i : Nat)) (wipeN ρ vs) fun ρ2 => pe ρ2 R) (k : post (.ol ((List.range n).map g))) : lcQ q pYes pe vs ρ post (rngV 0 ((n : Nat) : Int).toNat) := by
  rw [show rngV 0 ((n : Nat) : Int).toNat = (List.range n).map fun k => PV.int ((k : Nat) : Int) by unfold rngV; rw [Int.toNat_natCast]; exact List.map_congr_left fun k _ => by rw [Int.zero_add]]
  exact u_lcMap (xs := List.range n) (f := fun k => .int (k : Nat)) g (fun i x R hx hR => by
    obtain ⟨hi, e⟩ := List.getElem?_eq_some_iff.mp hx
    rw [List.getElem_range] at e
    subst e
    rw [List.length_range] at hi
    exact h i R hi hR) k
/-- over enumerate -/
theorem u_lcE {xs : List α} {f : α → PV} (g : Nat → α → PV) (h : ∀ (i : Nat) x (R : PV → Prop), xs[i]? = some x → R (g i x) → q (.tup [.int (i : Nat), f x]) (wipeN ρ vs) fun ρ2 => pe ρ2 R) (k : post (.ol (xs.mapIdx g))) : lcQ q pYes pe vs ρ post (enumV (xs.map f)) := by
  refine ⟨fun i ys => ys = (xs.take i).mapIdx g, rfl, fun i d ys e _ hI => ?_, fun ys _ hI => ?_⟩
  · obtain ⟨x, e1, rfl⟩ := enumV_get e
    rw [List.getElem?_map] at e1
    obtain ⟨y, e2, rfl⟩ := Option.map_eq_some_iff.mp e1
    refine h i y _ e2 ?_
    show ys ++ [g i y] = (xs.take (i + 1)).mapIdx g
    have hl : (xs.take i).length = i := by rw [List.length_take]; have := (List.getElem?_eq_some_iff.mp e2).1; omega
    rw [hI, List.take_succ, e2, Option.toList_some, List.mapIdx_append]
    simp only [List.mapIdx_cons, List.mapIdx_nil, hl, Nat.zero_add]
  · rw [hI, enumV_len, List.length_map, List.take_length]
    exact k
/-- for over enumerate: see u_forE -/
theorem map_mapIdx' {β γ : Type} (g : Nat → α → β) (f : β → γ) (xs : List α) : (xs.mapIdx g).map f = xs.mapIdx fun i x => f (g i x) := (List.mapIdx_eq_iff.mpr fun i => by
  rw [List.getElem?_map, List.getElem?_mapIdx]
  cases xs[i]? <;> rfl).symm
theorem mapIdx_const {β : Type} (f : α → β) (xs : List α) : (xs.mapIdx fun _ x => f x) = xs.map f := List.mapIdx_eq_iff.mpr fun i => by
  rw [List.getElem?_map]
theorem mapIdx_range {β : Type} (g : Nat → β) (xs : List α) : (xs.mapIdx fun i _ => g i) = (List.range xs.length).map g := List.mapIdx_eq_iff.mpr fun i => by
  rw [List.getElem?_map]
  by_cases h : i < xs.length
  · rw [List.getElem?_range h, List.getElem?_eq_getElem h]
    rfl
  · rw [List.getElem?_eq_none (by rw [List.length_range]; omega), List.getElem?_eq_none (by omega)]
    rfl
end

/-! ## a class of objects and its methods, as the text's top leaves them -/
section
variable {K : PySem.W.Frag} {h : Heap} {mg : Str → Option Value}
theorem obj_at {x : Str} {C : Addr} {fs : List Str} (X : K.In h) (G : h.Ns mainGlobals mg) (aC : PySem.W.nsIn K mainGlobals x = some (some (.ref C))) (pg : PySem.W.plainGet K C Str.empty = true) (hd : PySem.W.hasDictIn K C = true) (po : PySem.W.plainOver K C = true)
    (sa : PySem.W.findIn K (.ref C) "__setattr__" = some (some (.builtin "object.__setattr__"))) (no : ∀ f ∈ fs, PySem.W.findIn K (.ref C) f = some none) : ObC K mg x C fs := ⟨⟨pg, hd, po, sa⟩, no, PySem.W.mg_of X G aC⟩
theorem mat_mk {C f : Addr} {m qual : Str} {st : Stmt} {oc : Value} {od an : Option Addr} {sl : Array (Option Value)} {kV dc pm cd ct : Value} (a : PySem.W.findIn K (.ref C) m = some (some (.ref f))) (n : PySem.W.isFn K (.ref f) = true) (k : PySem.W.keepIn K (.ref f) = true)
    (l : K.lookup f = some ⟨oc, od, .func (PySem.W.fnOf m qual (defArgs st) (defBody st) (defScope st) .none kV dc pm an cd ct), sl⟩) (c : PySem.W.codeIn K cd qual = true) : MAt K C m qual st := ⟨f, _, ⟨a, n, k⟩, fun_mk l c k⟩
theorem iat_mk {C f : Addr} {qual : Str} {st : Stmt} {oc : Value} {od an : Option Addr} {sl : Array (Option Value)} {kV dc pm cd ct : Value} (mk : PySem.W.makesIn K C = true) (a : PySem.W.findIn K (.ref C) "__init__" = some (some (.ref f))) (n : PySem.W.isFn K (.ref f) = true) (kC : PySem.W.keepIn K (.ref C) = true)
    (l : K.lookup f = some ⟨oc, od, .func (PySem.W.fnOf "__init__" qual (defArgs st) (defBody st) (defScope st) .none kV dc pm an cd ct), sl⟩) (c : PySem.W.codeIn K cd qual = true) (k : PySem.W.keepIn K (.ref f) = true) : IAt K C qual st := ⟨f, _, ⟨mk, a, n, kC⟩, fun_mk l c k⟩
end
def topS (i : Nat) : Stmt := PySem.Challenge.pw_seamsight_k24_margins.main.body.getD i (.Pass ⟨0, 0, 0, 0⟩)
/-! ## letters and corpora -/
structure LsOk (ls : Txt) : Prop where
  le : ls.length ≤ 6
  mem : ∀ a ∈ ls, a ∈ al52
  asc : ls.Pairwise (· < ·)
theorem al52_asc : ∀ a ∈ al52, a < 128 := by decide +kernel
theorem LsOk.lo {ls : Txt} (h : LsOk ls) : ∀ a ∈ ls, a < 128 := fun a ha => al52_asc a (h.mem a ha)
theorem LsOk.ck {ls : Txt} (h : LsOk ls) : Ck ls := fun a ha => by have := h.lo a ha; omega
theorem LsOk.nd {ls : Txt} (h : LsOk ls) : ls.Nodup := by
  rw [List.nodup_iff_pairwise_ne]
  exact h.asc.imp fun h => by omega
theorem LsOk.take {ls : Txt} (h : LsOk ls) (n : Nat) : LsOk (ls.take n) := ⟨by rw [List.length_take]; have := h.le; omega, fun a ha => h.mem a (List.mem_of_mem_take ha), h.asc.sublist (List.take_sublist _ _)⟩
/-! ## the drawn letters -/
abbrev lst6 (v st m : Nat) : Txt := (List.range m).map fun k => al52.getD ((v + k * st) % 52) 0
theorem lst6_nd : ∀ v < 52, ∀ st ∈ [1, 17, 3, 9, 25], (lst6 v st 6).Nodup := by decide +kernel
theorem lst6_nd' {v st m : Nat} (hv : v < 52) (hs : st ∈ [1, 17, 3, 9, 25]) (hm : m ≤ 6) : (lst6 v st m).Nodup := by
  have h := lst6_nd v hv st hs
  refine h.sublist ?_
  refine List.Sublist.map _ ?_
  obtain ⟨k, hk⟩ : ∃ k, 6 = m + k := ⟨6 - m, by omega⟩
  rw [hk, List.range_add]
  exact List.sublist_append_left _ _
theorem lst6_mem {v st m : Nat} : ∀ a ∈ lst6 v st m, a ∈ al52 := fun a ha => by
  obtain ⟨k, _, rfl⟩ := List.mem_map.mp ha
  have : (v + k * st) % 52 < 52 := Nat.mod_lt _ (by decide)
  exact (show ∀ i < 52, al52.getD i 0 ∈ al52 by decide +kernel) _ this
theorem lst6_at (v st k : Nat) : atI al52 (((v : Int) + (k : Int) * (st : Int)) % 52) = some (al52.getD ((v + k * st) % 52) 0) := by
  have h : (v + k * st) % 52 < 52 := Nat.mod_lt _ (by decide)
  have e : ((v : Int) + (k : Int) * (st : Int)) % 52 = (((v + k * st) % 52 : Nat) : Int) := by rw [← Int.natCast_mul]; generalize k * st = z; omega
  rw [e]
  refine atI_nat ?_
  rw [List.getD_eq_getElem?_getD]
  rw [List.getElem?_eq_getElem (show _ < al52.length from h)]
  rfl
/-! ## margins -/
abbrev Mg := Int × Option Int
/-- one demand: base + slope * n is at least 0 -/
def nar (s : Mg) (sl ba : Int) : Mg :=
  (if 0 < sl then max s.1 (-(ba / sl)) else s.1,
   if sl < 0 then (match s.2 with
     | none => some (ba / -sl)
     | some g => if ba / -sl < g then some (ba / -sl) else some g) else s.2)
theorem nar_zero (s : Mg) (ba : Int) : nar s 0 ba = s := by unfold nar; simp
theorem nar_comm (s : Mg) (a b c d : Int) : nar (nar s a b) c d = nar (nar s c d) a b := by
  obtain ⟨l, g⟩ := s
  unfold nar
  refine Prod.ext ?_ ?_
  · show (if 0 < c then max (if 0 < a then max l (-(b / a)) else l) (-(d / c)) else if 0 < a then max l (-(b / a)) else l) = (if 0 < a then max (if 0 < c then max l (-(d / c)) else l) (-(b / a)) else if 0 < c then max l (-(d / c)) else l)
    generalize b / a = x
    generalize d / c = y
    split <;> split <;> omega
  · generalize b / -a = x
    generalize d / -c = y
    cases g with
    | none =>
      by_cases h1 : a < 0 <;> by_cases h2 : c < 0 <;> simp [h1, h2]
      split <;> split <;> first | rfl | (congr 1; omega) | omega
    | some g =>
      by_cases h1 : a < 0 <;> by_cases h2 : c < 0 <;> simp [h1, h2]
      by_cases e1 : x < g <;> by_cases e2 : y < g <;> simp [e1, e2] <;> first | omega | (intro h; omega) | (split <;> split <;> first | rfl | (congr 1; omega) | omega)
def oI : Option Int → PV
  | none => .non
  | some i => .int i
abbrev mF (s : Mg) : List (Str × PV) := [("least", .int s.1), ("greatest", oI s.2)]
theorem mf_least (s : Mg) : (mF s).lookup ("least" : Str) = some (.int s.1) := by rfl
theorem mf_greatest (s : Mg) : (mF s).lookup ("greatest" : Str) = some (oI s.2) := by rfl
theorem mf_narrow (s : Mg) : (mF s).lookup ("narrow" : Str) = none := by rfl
theorem mf_putL (s : Mg) (x : Int) : putA ("least" : Str) (.int x) (mF s) = mF (x, s.2) := by rfl
theorem mf_putG (s : Mg) (x : Option Int) : putA ("greatest" : Str) (oI x) (mF s) = mF (s.1, x) := by rfl
/-! ## the contracts -/
def sp_init : SpO := fun ds fs post => ds = [] ∧ fs = [] ∧ post .non (mF (0, none))
def sp_narrow : SpO := fun ds fs post => ∃ (sl ba : Int) (s : Mg), ds = [.int sl, .int ba] ∧ fs = mF s ∧ (-1073741824 < sl ∧ sl < 1073741824) ∧ post .non (mF (nar s sl ba))
def sp_letters : SpV := fun ds post => ∃ m : Nat, ds = [.pool, .int (m : Nat)] ∧ 1 ≤ m ∧ m ≤ 6 ∧ ∀ ls : Txt, LsOk ls → ls.length = m → post (.sh (.str ls))
def sp_count : SpV := fun ds post => ds = [.pool] ∧ ∀ n : Int, post (.sh (.int n))
def sp_corpus : SpV := fun ds post => ∃ ls : Txt, ds = [.pool, .str ls] ∧ LsOk ls ∧ 1 ≤ ls.length ∧ ∀ cs, CoOk ls cs → 1 ≤ cs.length → cs.length ≤ 7 → post (.sh (coP cs))
/-! ## the sums of a law's step: for each pair its count in the other lines, and in the entry's -/
abbrev Gd := List (Pr × (Int × Int))
abbrev iP (r : Int × Int) : List PV := [.int r.1, .int r.2]
abbrev kvE (f : Gd) : List (List Key × List PV) := f.map fun z => (kk z.1, iP z.2)
theorem look_kvE (f : Gd) (p : Pr) : lookD (kvE f) (kk p) = (lookD f p).map iP := look_map kk_inj p f
theorem put_kvE (f : Gd) (p : Pr) (r : Int × Int) : putD (kvE f) (kk p) (iP r) = kvE (putD f p r) := put_map kk_inj p r f
theorem kvE_nd {f : Gd} (h : (f.map (·.1)).Nodup) : ((kvE f).map (·.1)).Nodup := by
  have : (kvE f).map (·.1) = (f.map (·.1)).map kk := by rw [List.map_map, List.map_map]; rfl
  rw [this]
  exact nd_map kk_inj h
def inc (b : Bool) (c : Int) (r : Int × Int) : Int × Int := if b = true then (r.1, r.2 + 1) else (r.1 + c, r.2)
def gst (b : Bool) (c : Int) (f : Gd) (p : Pr) : Gd := putD f p (inc b c ((lookD f p).getD (0, 0)))
def addG (f : Gd) (p : Pr) : Gd := if (lookD f p).isSome = true then f else f ++ [(p, (0, 0))]
theorem look_none {κ α : Type} [DecidableEq κ] {k : κ} : ∀ {f : List (κ × α)}, lookD f k = none → k ∉ f.map (·.1)
  | [], _ => by simp
  | (k', v) :: f, h => by
    rw [look_cons] at h
    by_cases e : k' = k
    · rw [if_pos e] at h; cases h
    · rw [if_neg e] at h
      rw [List.map_cons, List.mem_cons]
      exact fun z => z.elim (fun z => e z.symm) (look_none h)
theorem look_app {κ α : Type} [DecidableEq κ] {k : κ} {v : α} : ∀ {f : List (κ × α)}, lookD f k = none → lookD (f ++ [(k, v)]) k = some v
  | [], _ => by rw [List.nil_append, look_cons, if_pos rfl]
  | (k', u) :: f, h => by
    rw [look_cons] at h
    by_cases e : k' = k
    · rw [if_pos e] at h; cases h
    · rw [if_neg e] at h
      rw [List.cons_append, look_cons, if_neg e, look_app h]
theorem put_app {κ α : Type} [DecidableEq κ] {k : κ} {v u : α} : ∀ {f : List (κ × α)}, lookD f k = none → putD (f ++ [(k, u)]) k v = putD f k v
  | [], _ => by rw [List.nil_append]; unfold putD; rw [if_pos rfl]
  | (k', w) :: f, h => by
    rw [look_cons] at h
    by_cases e : k' = k
    · rw [if_pos e] at h; cases h
    · rw [if_neg e] at h
      rw [List.cons_append]
      unfold putD
      rw [if_neg e, if_neg e, put_app h]
theorem addG_look (f : Gd) (p : Pr) : lookD (addG f p) p = some ((lookD f p).getD (0, 0)) := by
  unfold addG
  cases e : lookD f p with
  | none => rw [if_neg (by simp)]; exact look_app e
  | some r => rw [if_pos (by rfl), e]; rfl
theorem addG_put (f : Gd) (p : Pr) (b : Bool) (c : Int) : putD (addG f p) p (inc b c ((lookD f p).getD (0, 0))) = gst b c f p := by
  unfold addG gst
  cases e : lookD f p with
  | none => rw [if_neg (by simp)]; exact put_app e
  | some r => rw [if_pos (by rfl)]
abbrev lnD (ls : Ln) (n : Nat) : List Txt × Int := ls.getD n ([], 0)
def sumN (e : Nat) (ls : Ln) (i : Nat) : Gd := (List.range i).foldl (fun f n => (prs (lnD ls n).1).foldl (gst (decide (n = e)) (lnD ls n).2) f) []
theorem sumN_succ (e : Nat) (ls : Ln) (i : Nat) : sumN e ls (i + 1) = (prs (lnD ls i).1).foldl (gst (decide (i = e)) (lnD ls i).2) (sumN e ls i) := by
  unfold sumN
  rw [List.range_succ, List.foldl_append]
  rfl
theorem gst_nd {b : Bool} {c : Int} {f : Gd} {p : Pr} (h : (f.map (·.1)).Nodup) : ((gst b c f p).map (·.1)).Nodup := putD_nd h
theorem gst_len (b : Bool) (c : Int) (f : Gd) (p : Pr) : (gst b c f p).length ≤ f.length + 1 := putD_len _ _ _
theorem gsts_ok {b : Bool} {c : Int} : ∀ (l : List Pr) (f : Gd), (f.map (·.1)).Nodup → ((l.foldl (gst b c) f).map (·.1)).Nodup ∧ (l.foldl (gst b c) f).length ≤ f.length + l.length
  | [], f, h => ⟨h, Nat.le_refl _⟩
  | p :: l, f, h => by
    obtain ⟨h1, h2⟩ := gsts_ok (b := b) (c := c) l (gst b c f p) (gst_nd h)
    have := gst_len b c f p
    rw [List.foldl_cons, List.length_cons]
    exact ⟨h1, by omega⟩
def sp_sums : SpV := fun ds post => ∃ (ls : Ln) (e : Nat), ds = [.lst (ls.map lnP), .int (e : Nat)] ∧ LnOk 40 80 ls ∧ post (.sh (.dT ((kvE (sumN e ls ls.length)).map fun kv => (kv.1, .lst kv.2))))
def sp_is : SpV := fun ds post => ∃ (l : Int) (g : Option Int), ds = [.tup [.int l, oI g], .tup [.int l, oI g]] ∧ post (.sh (.bl true))
/-! ## the sums by two countings, and by the law's one -/
abbrev vG (f : Fd) (p : Pr) : Int := (lookD f p).getD 0
abbrev mapG (φ : Int × Int → Int) (f : Gd) : Fd := f.map fun z => (z.1, φ z.2)
theorem look_mapG (φ : Int × Int → Int) (f : Gd) (p : Pr) : lookD (mapG φ f) p = (lookD f p).map φ := look_map (g := fun p => p) (fun _ _ h => h) p f
theorem put_mapG (φ : Int × Int → Int) (f : Gd) (p : Pr) (r : Int × Int) : putD (mapG φ f) p (φ r) = mapG φ (putD f p r) := put_map (g := fun p => p) (fun _ _ h => h) p r f
theorem keys_mapG (φ : Int × Int → Int) (f : Gd) : (mapG φ f).map (·.1) = f.map (·.1) := by rw [List.map_map]; rfl
theorem gst_map {φ : Int × Int → Int} {b : Bool} {c w : Int} (h0 : φ (0, 0) = 0) (hs : ∀ r, φ (inc b c r) = φ r + w) (f : Gd) (p : Pr) : step [] w (mapG φ f) p = mapG φ (gst b c f p) := by
  unfold step gst
  rw [if_neg (by simp), look_mapG, show ((lookD f p).map φ).getD 0 = φ ((lookD f p).getD (0, 0)) by cases lookD f p <;> simp [h0], ← hs, put_mapG]
theorem gsts_map {φ : Int × Int → Int} {b : Bool} {c w : Int} (h0 : φ (0, 0) = 0) (hs : ∀ r, φ (inc b c r) = φ r + w) : ∀ (l : List Pr) (f : Gd), l.foldl (step [] w) (mapG φ f) = mapG φ (l.foldl (gst b c) f)
  | [], _ => rfl
  | p :: l, f => by rw [List.foldl_cons, List.foldl_cons, gst_map h0 hs, gsts_map h0 hs l]
theorem cnt_map {φ : Int × Int → Int} {e : Nat} {ls lw : Ln} (h0 : φ (0, 0) = 0) (hl : lw.length = ls.length) (hr : ∀ (i : Nat) z, lw[i]? = some z → ∃ c, ls[i]? = some (z.1, c) ∧ ∀ r, φ (inc (decide (i = e)) c r) = φ r + z.2) : cnt [] lw = mapG φ (sumN e ls ls.length) := by
  have key : ∀ i, i ≤ ls.length → (lw.take i).foldl (cntL []) [] = mapG φ (sumN e ls i) := by
    intro i
    induction i with
    | zero => intro _; rfl
    | succ i ih =>
      intro hi
      obtain ⟨z, hz⟩ : ∃ z, lw[i]? = some z := ⟨_, List.getElem?_eq_getElem (by omega)⟩
      obtain ⟨c, h1, h2⟩ := hr i z hz
      rw [fold_take hz, ih (by omega), sumN_succ, show lnD ls i = (z.1, c) by unfold lnD; rw [List.getD_eq_getElem?_getD, h1]; rfl]
      exact gsts_map h0 h2 (prs z.1) _
  have := key ls.length (Nat.le_refl _)
  rw [← hl, List.take_length, hl] at this
  exact this
abbrev lw1 (e : Nat) (ls : Ln) : Ln := ls.mapIdx fun i z => (z.1, if i = e then 1 else 0)
abbrev lw0 (e : Nat) (ls : Ln) : Ln := ls.mapIdx fun i z => (z.1, if i = e then 0 else z.2)
theorem lw1_cnt (e : Nat) (ls : Ln) : cnt [] (lw1 e ls) = mapG (·.2) (sumN e ls ls.length) := by
  refine cnt_map rfl (by simp) fun i z hz => ?_
  rw [List.getElem?_mapIdx] at hz
  obtain ⟨y, hy, rfl⟩ := Option.map_eq_some_iff.mp hz
  refine ⟨y.2, hy, fun r => ?_⟩
  unfold inc
  by_cases h : i = e <;> simp [h]
theorem lw0_cnt (e : Nat) (ls : Ln) : cnt [] (lw0 e ls) = mapG (·.1) (sumN e ls ls.length) := by
  refine cnt_map rfl (by simp) fun i z hz => ?_
  rw [List.getElem?_mapIdx] at hz
  obtain ⟨y, hy, rfl⟩ := Option.map_eq_some_iff.mp hz
  refine ⟨y.2, hy, fun r => ?_⟩
  unfold inc
  by_cases h : i = e <;> simp [h]
theorem tot_cnt {e : Nat} {ls : Ln} {own : Int} (h : ∀ z, ls[e]? = some z → z.2 = own) : cnt [] ls = mapG (fun r => r.1 + r.2 * own) (sumN e ls ls.length) := by
  refine cnt_map (by simp) rfl fun i z hz => ⟨z.2, hz, fun r => ?_⟩
  unfold inc
  by_cases hi : i = e
  · subst hi
    rw [h z hz]
    simp only [decide_true, if_true]
    rw [Int.add_mul]
    omega
  · simp only [hi, decide_false, Bool.false_eq_true, if_false]
    omega
/-! ### how often a pair stands in the entry -/
theorem gst_bd {b : Bool} {c : Int} {f : Gd} {k : Int} {p : Pr} (h : ∀ q, 0 ≤ ((lookD f q).getD (0, 0)).2 ∧ ((lookD f q).getD (0, 0)).2 ≤ k) : ∀ q, 0 ≤ ((lookD (gst b c f p) q).getD (0, 0)).2 ∧ ((lookD (gst b c f p) q).getD (0, 0)).2 ≤ k + 1 := fun q => by
  unfold gst
  rw [look_put]
  have h1 := h q
  by_cases e : p = q
  · subst e
    rw [if_pos rfl]
    unfold inc
    split
    · show 0 ≤ _ + 1 ∧ _ + 1 ≤ _; omega
    · show 0 ≤ ((lookD f p).getD (0, 0)).2 ∧ ((lookD f p).getD (0, 0)).2 ≤ _; omega
  · rw [if_neg e]; omega
theorem gsts_bd {b : Bool} {c : Int} : ∀ (l : List Pr) (f : Gd) (k : Int), (∀ q, 0 ≤ ((lookD f q).getD (0, 0)).2 ∧ ((lookD f q).getD (0, 0)).2 ≤ k) → ∀ q, 0 ≤ ((lookD (l.foldl (gst b c) f) q).getD (0, 0)).2 ∧ ((lookD (l.foldl (gst b c) f) q).getD (0, 0)).2 ≤ k + (l.length : Int)
  | [], f, k, h, q => by have := h q; simpa using this
  | p :: l, f, k, h, q => by
    have := gsts_bd (b := b) (c := c) l (gst b c f p) (k + 1) (gst_bd h) q
    rw [List.foldl_cons, List.length_cons]
    omega
theorem sum_ok {e : Nat} {ls : Ln} (ok : LnOk 40 80 ls) : ∀ i ≤ ls.length, ((sumN e ls i).map (·.1)).Nodup ∧ ∀ q, 0 ≤ ((lookD (sumN e ls i) q).getD (0, 0)).2 ∧ ((lookD (sumN e ls i) q).getD (0, 0)).2 ≤ 80 * (i : Int) := by
  intro i
  induction i with
  | zero => intro _; exact ⟨by simp [sumN], fun q => by simp [sumN, look_nil]⟩
  | succ i ih =>
    intro hi
    obtain ⟨h1, h2⟩ := ih (by omega)
    obtain ⟨z, hz⟩ : ∃ z, ls[i]? = some z := ⟨_, List.getElem?_eq_getElem (by omega)⟩
    have zb := ok.bd z (List.mem_of_getElem? hz)
    have hn := prs_n z.1
    rw [sumN_succ, show lnD ls i = z by unfold lnD; rw [List.getD_eq_getElem?_getD, hz]; rfl]
    refine ⟨(gsts_ok _ _ h1).1, fun q => ?_⟩
    have := gsts_bd (b := decide (i = e)) (c := z.2) (prs z.1) _ _ h2 q
    have := zb.2.1
    omega
/-! ### one step's demands -/
abbrev ltb (q p : Pr) : Bool := lxS [S q.1, S q.2] [S p.1, S p.2]
/-- the program's: one pair of the dict -/
def dem (p : Option Pr) (sl ba : Fd) (s : Mg) (q : Pr) : Mg := match p with
  | none => nar s (-(vG sl q)) (-(vG ba q))
  | some p => if q = p then nar s (vG sl p) (vG ba p - 1) else nar s (vG sl p - vG sl q) (vG ba p - vG ba q - (if ltb q p = true then 1 else 0))
def stM (p : Option Pr) (sl ba : Fd) (s : Mg) : Mg := (sl.map (·.1)).foldl (dem p sl ba) s
abbrev gG (F : Gd) (p : Pr) : Int × Int := (lookD F p).getD (0, 0)
/-- the law's: base and slope -/
def dmL (p : Option Pr) (F : Gd) : List (Int × Int) := match p with
  | none => (srt (F.map (·.1))).map fun q => (-(gG F q).1, -(gG F q).2)
  | some p => ((gG F p).1 - 1, (gG F p).2) :: (srt (F.map (·.1))).map fun q => ((gG F p).1 - (gG F q).1 - (if ltb q p = true then 1 else 0), (gG F p).2 - (gG F q).2)
abbrev narL (s : Mg) (z : Int × Int) : Mg := nar s z.2 z.1
theorem ltb_self (p : Pr) : ltb p p = false := by
  unfold ltb lxS lxS
  rw [if_pos rfl, if_pos rfl]
  rfl
theorem vG_map (φ : Int × Int → Int) (h0 : φ (0, 0) = 0) (F : Gd) (p : Pr) : vG (mapG φ F) p = φ (gG F p) := by
  unfold vG gG
  rw [look_mapG]
  cases lookD F p <;> simp [h0]
theorem foldl_cong {α β : Type} {f g : β → α → β} : ∀ (l : List α) (a : β), (∀ x ∈ l, ∀ b, f b x = g b x) → l.foldl f a = l.foldl g a
  | [], _, _ => rfl
  | x :: l, a, h => by rw [List.foldl_cons, List.foldl_cons, h x List.mem_cons_self a, foldl_cong l _ fun y hy => h y (List.mem_cons_of_mem _ hy)]
theorem dm_eq {p : Option Pr} {F : Gd} (nd : (F.map (·.1)).Nodup) (hp : ∀ q, p = some q → q ∈ F.map (·.1)) (s : Mg) : (dmL p F).foldl narL s = stM p (mapG (·.2) F) (mapG (·.1) F) s := by
  unfold stM
  rw [keys_mapG]
  cases p with
  | none =>
    unfold dmL
    dsimp only
    rw [List.foldl_map, List.Perm.foldl_eq' (srt_perm _) (fun x _ y _ z => nar_comm _ _ _ _ _)]
    refine foldl_cong _ _ fun q _ b => ?_
    unfold dem narL
    dsimp only
    rw [vG_map _ rfl, vG_map _ rfl]
  | some p =>
    have hm := hp p rfl
    generalize hk : F.map (·.1) = ks at *
    have hpe : ks.Perm (p :: ks.erase p) := List.perm_cons_erase hm
    have hne : ∀ q ∈ ks.erase p, q ≠ p := fun q hq z => by
      subst z
      exact (List.Nodup.not_mem_erase nd) hq
    unfold dmL
    dsimp only
    rw [hk, List.foldl_cons, List.foldl_map, List.Perm.foldl_eq' ((srt_perm _).trans hpe) (fun x _ y _ z => nar_comm _ _ _ _ _), List.foldl_cons]
    rw [List.Perm.foldl_eq' (f := dem (some p) (mapG (·.2) F) (mapG (·.1) F)) hpe ?_, List.foldl_cons]
    · have e1 : narL (narL s ((gG F p).1 - 1, (gG F p).2)) ((gG F p).1 - (gG F p).1 - (if ltb p p = true then 1 else 0), (gG F p).2 - (gG F p).2) = dem (some p) (mapG (·.2) F) (mapG (·.1) F) s p := by
        unfold dem narL
        dsimp only
        rw [if_pos rfl, Int.sub_self (gG F p).2, nar_zero, vG_map _ rfl, vG_map _ rfl]
      rw [e1]
      refine foldl_cong _ _ fun q hq b => ?_
      unfold dem narL
      dsimp only
      rw [if_neg (hne q hq), vG_map _ rfl, vG_map _ rfl, vG_map _ rfl, vG_map _ rfl]
    · intro x _ y _ z
      unfold dem
      dsimp only
      split <;> split <;> exact nar_comm _ _ _ _ _
/-! ### all steps -/
def mgP (e : Nat) : Nat → List Txt → Ln → Mg → Mg
  | 0, _, _, s => s
  | n + 1, tk, ls, s => match bst (cnt tk ls) with
    | none => stM none (cnt tk (lw1 e ls)) (cnt tk (lw0 e ls)) s
    | some p => mgP e n (addT tk (p.1 ++ p.2)) (jnL p ls) (stM (some p) (cnt tk (lw1 e ls)) (cnt tk (lw0 e ls)) s)
def dmA (own : Int) (e : Nat) : Nat → Ln → List (Int × Int)
  | 0, _ => []
  | n + 1, ls => match bst (mapG (fun r => r.1 + r.2 * own) (sumN e ls ls.length)) with
    | none => dmL none (sumN e ls ls.length)
    | some p => dmL (some p) (sumN e ls ls.length) ++ dmA own e n (jnL p ls)
theorem lw_free {tk : List Txt} {ls lw : Ln} (h : ∀ z ∈ ls, ∀ p ∈ prs z.1, cat2 p ∉ tk) (hr : ∀ z ∈ lw, ∃ c, (z.1, c) ∈ ls) : cnt tk lw = cnt [] lw := cnt_free fun z hz p hp => by
  obtain ⟨c, hc⟩ := hr z hz
  exact h _ hc p hp
theorem lw1_mem {e : Nat} {ls : Ln} : ∀ z ∈ lw1 e ls, ∃ c, (z.1, c) ∈ ls := fun z hz => by
  obtain ⟨i, hi, rfl⟩ := List.mem_mapIdx.mp hz
  exact ⟨ls[i].2, List.getElem_mem hi⟩
theorem lw0_mem {e : Nat} {ls : Ln} : ∀ z ∈ lw0 e ls, ∃ c, (z.1, c) ∈ ls := fun z hz => by
  obtain ⟨i, hi, rfl⟩ := List.mem_mapIdx.mp hz
  exact ⟨ls[i].2, List.getElem_mem hi⟩
theorem mg_eq {cs : List (Txt × Int)} {own : Int} {e : Nat} : ∀ (n : Nat) {rs : List Pr} {tk : List Txt} {ls : Ln} (s : Mg), Trn cs rs tk ls → LnOk 40 80 ls → (∀ z, ls[e]? = some z → z.2 = own) → mgP e n tk ls s = (dmA own e n ls).foldl narL s
  | 0, _, _, _, _, _, _, _ => rfl
  | n + 1, rs, tk, ls, s, T, ok, ho => by
    have e1 : cnt tk ls = mapG (fun r => r.1 + r.2 * own) (sumN e ls ls.length) := by rw [cnt_free T.free, tot_cnt ho]
    have e2 : cnt tk (lw1 e ls) = mapG (·.2) (sumN e ls ls.length) := by rw [lw_free T.free lw1_mem, lw1_cnt]
    have e3 : cnt tk (lw0 e ls) = mapG (·.1) (sumN e ls ls.length) := by rw [lw_free T.free lw0_mem, lw0_cnt]
    have nd := (sum_ok (e := e) ok ls.length (Nat.le_refl _)).1
    unfold mgP dmA
    rw [e2, e3]
    cases hb : bst (cnt tk ls) with
    | none =>
      rw [e1] at hb
      rw [hb]
      dsimp only
      rw [dm_eq nd (fun q z => by cases z)]
    | some p =>
      have hb2 := hb
      rw [e1] at hb2
      rw [hb2]
      dsimp only
      rw [List.foldl_append, dm_eq nd (fun q z => by cases z; have := bst_mem hb2; rwa [keys_mapG] at this)]
      refine mg_eq n _ (T.next hb) ok.jn fun z hz => ?_
      unfold jnL at hz
      rw [List.getElem?_map] at hz
      obtain ⟨y, hy, rfl⟩ := Option.map_eq_some_iff.mp hz
      exact ho y hy
/-! ### contracts -/
abbrev mgV (s : Mg) : PV := .tup [.int s.1, oI s.2]
structure SlOk (p : Option Pr) (sl ba : Fd) : Prop where
  nd : (sl.map (·.1)).Nodup
  same : ba.map (·.1) = sl.map (·.1)
  len : sl.length ≤ 3200
  ok : ∃ tk, FdOk tk 80 sl
  bd : ∀ q, 0 ≤ vG sl q ∧ vG sl q ≤ 3200
  mem : ∀ q, p = some q → q ∈ sl.map (·.1)
def sp_nstep : SpO := fun ds fs post => ∃ (p : Option Pr) (sl ba : Fd) (s : Mg), ds = [oP p, dF sl, dF ba] ∧ fs = mF s ∧ SlOk p sl ba ∧ post .non (mF (stM p sl ba s))
def sp_margin : SpV := fun ds post => ∃ (l ls : Txt) (cs : List (Txt × Int)) (n e : Nat), ds = [.str l, coP cs, .int (n : Nat), .int (e : Nat)] ∧ CoOk ls cs ∧ n ≤ 16 ∧ post (.sh (mgV (mgP e n [] (ln0 cs) (0, none))))
abbrev dmV (z : Int × Int) : PV := .tup [.int z.1, .int z.2]
def sp_dem : SpV := fun ds post => ∃ (ls : Txt) (cs : List (Txt × Int)) (n e : Nat) (c : PV) (t : Txt) (own : Int), ds = [c, .int (n : Nat), .int (e : Nat)] ∧ (c = coP cs ∨ c = .lst (cs.map cP)) ∧ CoOk ls cs ∧ n ≤ 16 ∧ cs[e]? = some (t, own) ∧ post (.ol ((dmA own e n (ln0 cs)).map dmV))
def sp_lmargin : SpV := fun ds post => ∃ (ls : Txt) (cs : List (Txt × Int)) (n e : Nat) (c : PV), ds = [c, .int (n : Nat), .int (e : Nat)] ∧ (c = coP cs ∨ c = .lst (cs.map cP)) ∧ CoOk ls cs ∧ n ≤ 16 ∧ e < cs.length ∧ post (.sh (mgV (mgP e n [] (ln0 cs) (0, none))))
def sp_yes : SpV := fun ds post => ds = [.pool] ∧ post (.sh (.bl true))
def sp_wide : SpV := fun ds post => ∃ ls : Txt, ds = [.pool, .str ls] ∧ LsOk ls ∧ 1 ≤ ls.length ∧ post (.sh (.bl true))
theorem sl_ok {cs : List (Txt × Int)} {rs : List Pr} {tk : List Txt} {ls : Ln} {e : Nat} (T : Trn cs rs tk ls) (ok : LnOk 40 80 ls) {p : Option Pr} (hp : bst (cnt tk ls) = p) : SlOk p (cnt tk (lw1 e ls)) (cnt tk (lw0 e ls)) := by
  have ok1 : LnOk 40 80 (lw1 e ls) := ⟨by rw [List.length_mapIdx]; exact ok.few, fun z hz => by obtain ⟨c, hc⟩ := lw1_mem z hz; exact ok.bd (z.1, c) hc⟩
  obtain ⟨o1, o2⟩ := cnt_ok (tk := tk) ok1
  have e2 : cnt tk (lw1 e ls) = mapG (·.2) (sumN e ls ls.length) := by rw [lw_free T.free lw1_mem, lw1_cnt]
  have e3 : cnt tk (lw0 e ls) = mapG (·.1) (sumN e ls ls.length) := by rw [lw_free T.free lw0_mem, lw0_cnt]
  obtain ⟨s1, s2⟩ := sum_ok (e := e) ok ls.length (Nat.le_refl _)
  have few := ok.few
  refine ⟨o1.nd, by rw [e2, e3, keys_mapG, keys_mapG], o2, ⟨tk, o1⟩, fun q => ?_, fun q hq => ?_⟩
  · rw [e2, vG_map _ rfl]
    have := s2 q
    show 0 ≤ ((lookD _ q).getD (0, 0)).2 ∧ ((lookD _ q).getD (0, 0)).2 ≤ 3200
    omega
  · rw [hq] at hp
    have := bst_mem hp
    have e1 : cnt tk ls = cnt [] ls := cnt_free T.free
    by_cases h : ∃ z, ls[e]? = some z
    · obtain ⟨z, hz⟩ := h
      rw [e1, tot_cnt (e := e) (own := z.2) (fun y hy => by rw [hz] at hy; cases hy; rfl), keys_mapG] at this
      rw [e2, keys_mapG]
      exact this
    · rw [e1, tot_cnt (e := e) (own := 0) (fun y hy => absurd ⟨y, hy⟩ h), keys_mapG] at this
      rw [e2, keys_mapG]
      exact this

/-! ### what the walks want -/
theorem lw1_rows (e : Nat) (ls : Ln) : (lw1 e ls).map (fun z => lP z.1) = ls.map fun z => lP z.1 := by
  rw [map_mapIdx']
  exact mapIdx_const (fun z : List Txt × Int => lP z.1) ls
theorem lw0_rows (e : Nat) (ls : Ln) : (lw0 e ls).map (fun z => lP z.1) = ls.map fun z => lP z.1 := by
  rw [map_mapIdx']
  exact mapIdx_const (fun z : List Txt × Int => lP z.1) ls
theorem lw1_ints (e : Nat) (ls : Ln) : (lw1 e ls).map (fun z => PV.int z.2) = (List.range ls.length).map fun k => PV.int (if k = e then 1 else 0) := by
  rw [map_mapIdx']
  exact mapIdx_range (fun k => PV.int (if k = e then 1 else 0)) ls
theorem lw0_ints {e : Nat} {ls : Ln} {cs : List (Txt × Int)} (h : ls.map (·.2) = cs.map (·.2)) : (lw0 e ls).map (fun z => PV.int z.2) = cs.mapIdx fun k c => PV.int (if k = e then 0 else c.2) := List.ext_getElem? fun i => by
  have := congrArg (·[i]?) h
  simp only [List.getElem?_map] at this
  rw [List.getElem?_map, List.getElem?_mapIdx, List.getElem?_mapIdx, Option.map_map]
  cases e1 : ls[i]? with
  | none =>
    cases e2 : cs[i]? with
    | none => rfl
    | some c => rw [e1, e2] at this; cases this
  | some z =>
    cases e2 : cs[i]? with
    | none => rw [e1, e2] at this; cases this
    | some c =>
      rw [e1, e2] at this
      simp only [Option.map_some, Option.some.injEq] at this
      simp [this]
theorem Trn.cnts {cs : List (Txt × Int)} {rs : List Pr} {tk : List Txt} {ls : Ln} (h : Trn cs rs tk ls) : ls.map (·.2) = cs.map (·.2) := by
  rw [h.ls]
  unfold ln0
  rw [List.map_map, List.map_map]
  rfl
theorem Trn.len {cs : List (Txt × Int)} {rs : List Pr} {tk : List Txt} {ls : Ln} (h : Trn cs rs tk ls) : ls.length = cs.length := by
  have := congrArg List.length h.cnts
  rwa [List.length_map, List.length_map] at this
theorem lw_ok {ls lw : Ln} (ok : LnOk 40 80 ls) (hl : lw.length = ls.length) (hr : ∀ z ∈ lw, ∃ c, (z.1, c) ∈ ls) : LnOk 40 80 lw := ⟨by rw [hl]; exact ok.few, fun z hz => by obtain ⟨c, hc⟩ := hr z hz; exact ok.bd (z.1, c) hc⟩
theorem mgP_zero (e : Nat) (tk : List Txt) (ls : Ln) (s : Mg) : mgP e 0 tk ls s = s := rfl
theorem mgP_none {e n : Nat} {tk : List Txt} {ls : Ln} {s : Mg} (h : bst (cnt tk ls) = none) : mgP e (n + 1) tk ls s = stM none (cnt tk (lw1 e ls)) (cnt tk (lw0 e ls)) s := by
  conv => lhs; unfold mgP
  rw [h]
theorem mgP_some {e n : Nat} {tk : List Txt} {ls : Ln} {s : Mg} {p : Pr} (h : bst (cnt tk ls) = some p) : mgP e (n + 1) tk ls s = mgP e n (addT tk (p.1 ++ p.2)) (jnL p ls) (stM (some p) (cnt tk (lw1 e ls)) (cnt tk (lw0 e ls)) s) := by
  conv => lhs; unfold mgP
  rw [h]
/-! the law's dict -/
abbrev dG (F : Gd) : PV := .dT (F.map fun z => (kk z.1, .lst (iP z.2)))
theorem dG_eq (F : Gd) : PV.dT ((kvE F).map fun kv => (kv.1, PV.lst kv.2)) = dG F := by rw [List.map_map]; rfl
theorem look_dG (F : Gd) (p : Pr) : lookD (F.map fun z => (kk z.1, PV.lst (iP z.2))) (kk p) = (lookD F p).map fun r => .lst (iP r) := look_map (h := fun r => PV.lst (iP r)) kk_inj p F
theorem u_sortG {α : Type} {f : List (Pr × α)} {g : α → PV} {post : Vl → Prop} (hb : ∀ z ∈ f, z.1.1.length ≤ 16777216 ∧ z.1.2.length ≤ 16777216) (h : post (.ol ((srt (f.map (·.1))).map pP))) : fSortDT (f.map fun z => (kk z.1, g z.2)) post := by
  refine ⟨fun _ => true, fun kv hkv => ?_, fun ys h1 h2 => ?_⟩
  · obtain ⟨z, hz, rfl⟩ := List.mem_map.mp hkv
    refine ⟨by simp [kk], ⟨rfl, rfl, trivial⟩, by simp [kk], fun x hx => ?_⟩
    obtain ⟨b1, b2⟩ := hb z hz
    simp only [kk, List.mem_cons, List.not_mem_nil, or_false] at hx
    rcases hx with hx | hx
    · cases Sum.inr.inj hx; simpa [S] using b1
    · cases Sum.inr.inj hx; simpa [S] using b2
  · rw [show (f.map fun z => (kk z.1, g z.2)).map (·.1) = (f.map (·.1)).map kk by rw [List.map_map, List.map_map]; rfl] at h1
    obtain ⟨m, rfl, hm⟩ := kk_lift ys _ h1
    have hs : m.Pairwise fun a b => lek a b = true := by
      rw [List.pairwise_map] at h2
      exact h2.imp fun q => (leK_kk _ _).mp q
    rw [srt_uniq hm hs, List.map_map]
    have : (tP ∘ kk) = pP := by
      funext p
      simp [tP, kk, kP, S]
    rw [this]
    exact h
theorem sum_keys {e : Nat} {ls : Ln} (ok : LnOk 40 80 ls) : ∀ z ∈ sumN e ls ls.length, z.1 ∈ (cnt [] (lw1 e ls)).map (·.1) := fun z hz => by
  rw [lw1_cnt, keys_mapG]
  exact List.mem_map.mpr ⟨z, hz, rfl⟩
theorem sum_pair {e : Nat} {ls : Ln} (ok : LnOk 40 80 ls) : ∀ p ∈ (sumN e ls ls.length).map (·.1), Bp 80 p := fun p hp => by
  have h : p ∈ (cnt [] (lw1 e ls)).map (·.1) := by rw [lw1_cnt, keys_mapG]; exact hp
  obtain ⟨o1, _⟩ := cnt_ok (tk := []) (lw_ok ok (by rw [List.length_mapIdx]) lw1_mem : LnOk 40 80 (lw1 e ls))
  exact (o1.bd p h).1
theorem sum_len {e : Nat} {ls : Ln} (ok : LnOk 40 80 ls) : (sumN e ls ls.length).length ≤ 3200 := by
  have h : (cnt [] (lw1 e ls)).length = (sumN e ls ls.length).length := by rw [lw1_cnt, List.length_map]
  obtain ⟨_, o2⟩ := cnt_ok (tk := []) (lw_ok ok (by rw [List.length_mapIdx]) lw1_mem : LnOk 40 80 (lw1 e ls))
  omega
theorem gG_bd {e : Nat} {ls : Ln} (ok : LnOk 40 80 ls) (p : Pr) : 0 ≤ (gG (sumN e ls ls.length) p).2 ∧ (gG (sumN e ls ls.length) p).2 ≤ 3200 := by
  have := (sum_ok (e := e) ok ls.length (Nat.le_refl _)).2 p
  have few := ok.few
  show 0 ≤ ((lookD _ p).getD (0, 0)).2 ∧ ((lookD _ p).getD (0, 0)).2 ≤ 3200
  omega
theorem look_gG {F : Gd} {p : Pr} (h : p ∈ F.map (·.1)) : lookD (F.map fun z => (kk z.1, PV.lst (iP z.2))) [Sum.inr (S p.1), Sum.inr (S p.2)] = some (.lst (iP (gG F p))) := by
  obtain ⟨r, hr⟩ := look_some h
  rw [show [Sum.inr (S p.1), Sum.inr (S p.2)] = kk p from rfl, look_dG, hr]
  unfold gG
  rw [hr]
  rfl
theorem dmA_zero (own : Int) (e : Nat) (ls : Ln) : dmA own e 0 ls = [] := rfl
theorem dmA_none {own : Int} {e n : Nat} {ls : Ln} (h : bst (mapG (fun r => r.1 + r.2 * own) (sumN e ls ls.length)) = none) : dmA own e (n + 1) ls = dmL none (sumN e ls ls.length) := by
  conv => lhs; unfold dmA
  rw [h]
theorem dmA_some {own : Int} {e n : Nat} {ls : Ln} {p : Pr} (h : bst (mapG (fun r => r.1 + r.2 * own) (sumN e ls ls.length)) = some p) : dmA own e (n + 1) ls = dmL (some p) (sumN e ls ls.length) ++ dmA own e n (jnL p ls) := by
  conv => lhs; unfold dmA
  rw [h]
theorem dmL_bd {p : Option Pr} {e : Nat} {ls : Ln} (ok : LnOk 40 80 ls) : ∀ z ∈ dmL p (sumN e ls ls.length), -6400 ≤ z.2 ∧ z.2 ≤ 6400 := fun z hz => by
  cases p with
  | none =>
    obtain ⟨q, _, rfl⟩ := List.mem_map.mp hz
    have := gG_bd (e := e) ok q
    show -6400 ≤ -(gG _ q).2 ∧ -(gG _ q).2 ≤ 6400
    omega
  | some p =>
    have h1 := gG_bd (e := e) ok p
    rcases List.mem_cons.mp hz with rfl | hz
    · show -6400 ≤ (gG _ p).2 ∧ (gG _ p).2 ≤ 6400
      omega
    · obtain ⟨q, _, rfl⟩ := List.mem_map.mp hz
      have := gG_bd (e := e) ok q
      show -6400 ≤ (gG _ p).2 - (gG _ q).2 ∧ (gG _ p).2 - (gG _ q).2 ≤ 6400
      omega
theorem dmA_bd {own : Int} {e : Nat} : ∀ (n : Nat) {ls : Ln}, LnOk 40 80 ls → ∀ z ∈ dmA own e n ls, -6400 ≤ z.2 ∧ z.2 ≤ 6400
  | 0, _, _, z, hz => by rw [dmA_zero] at hz; cases hz
  | n + 1, ls, ok, z, hz => by
    cases h : bst (mapG (fun r => r.1 + r.2 * own) (sumN e ls ls.length)) with
    | none => rw [dmA_none h] at hz; exact dmL_bd ok z hz
    | some p =>
      rw [dmA_some h] at hz
      rcases List.mem_append.mp hz with hz | hz
      · exact dmL_bd ok z hz
      · exact dmA_bd n ok.jn z hz
def dmLen (p : Option Pr) (F : Gd) : (dmL p F).length ≤ F.length + 1 := by
  have := (srt_perm (F.map (·.1))).length_eq
  rw [List.length_map] at this
  cases p with
  | none => unfold dmL; dsimp only; rw [List.length_map]; omega
  | some p => unfold dmL; dsimp only; rw [List.length_cons, List.length_map]; omega
theorem dmA_len {own : Int} {e : Nat} : ∀ (n : Nat) {ls : Ln}, LnOk 40 80 ls → (dmA own e n ls).length ≤ n * 3201
  | 0, _, _ => by rw [dmA_zero]; simp
  | n + 1, ls, ok => by
    have h1 := sum_len (e := e) ok
    cases h : bst (mapG (fun r => r.1 + r.2 * own) (sumN e ls ls.length)) with
    | none =>
      rw [dmA_none h]
      have := dmLen none (sumN e ls ls.length)
      omega
    | some p =>
      rw [dmA_some h, List.length_append]
      have := dmLen (some p) (sumN e ls ls.length)
      have := dmA_len (own := own) (e := e) n (ls := jnL p ls) ok.jn
      omega
theorem mg_start {ls : Txt} {cs : List (Txt × Int)} {e n : Nat} {t : Txt} {own : Int} (ok : CoOk ls cs) (he : cs[e]? = some (t, own)) : mgP e n [] (ln0 cs) (0, none) = (dmA own e n (ln0 cs)).foldl narL (0, none) := by
  refine mg_eq n _ (Trn.start cs) ok.ln fun z hz => ?_
  unfold ln0 at hz
  rw [List.getElem?_map, he] at hz
  cases hz
  rfl
/-! ## what is known by hand -/
theorem bst_top {f : Fd} {p : Pr} (hp : p ∈ f.map (·.1)) (h0 : 0 < vG f p) (h : ∀ q ∈ f.map (·.1), q ≠ p → vG f q < vG f p) : bst f = some p := by
  have key : ∀ (l : List Pr) (s : Option Pr × Int), (∀ q ∈ l, q ≠ p → vG f q < vG f p) → (s = (some p, vG f p) ∨ (p ∈ l ∧ s.2 < vG f p)) → (l.foldl (bs f) s).1 = some p := by
    intro l
    induction l with
    | nil =>
      intro s _ hs
      rcases hs with rfl | ⟨hs, _⟩
      · rfl
      · cases hs
    | cons q l ih =>
      intro s hq hs
      rw [List.foldl_cons]
      refine ih _ (fun r hr => hq r (List.mem_cons_of_mem _ hr)) ?_
      by_cases e : q = p
      · subst e
        left
        unfold bs
        rcases hs with rfl | ⟨_, hs⟩
        · rw [if_neg (Int.lt_irrefl _)]
        · rw [if_pos hs]
      · have h1 := hq q List.mem_cons_self e
        rcases hs with rfl | ⟨hm, hs⟩
        · left
          unfold bs
          rw [if_neg (by show ¬ vG f p < vG f q; omega)]
        · right
          refine ⟨(List.mem_cons.mp hm).resolve_left (Ne.symm e), ?_⟩
          unfold bs
          split
          · exact h1
          · exact hs
  unfold bst
  exact key _ _ (fun q hq => h q ((srt_perm _).mem_iff.mp hq)) (.inr ⟨(srt_perm _).mem_iff.mpr hp, h0⟩)
theorem bst_non {f : Fd} (h : ∀ q ∈ f.map (·.1), vG f q ≤ 0) : bst f = none := by
  have key : ∀ (l : List Pr), (∀ q ∈ l, vG f q ≤ 0) → l.foldl (bs f) (none, 0) = (none, 0) := by
    intro l
    induction l with
    | nil => intro _; rfl
    | cons q l ih =>
      intro hq
      rw [List.foldl_cons, show bs f (none, 0) q = (none, 0) by unfold bs; rw [if_neg (by have := hq q List.mem_cons_self; show ¬ 0 < vG f q; omega)]]
      exact ih fun r hr => hq r (List.mem_cons_of_mem _ hr)
  unfold bst
  rw [key _ fun q hq => h q ((srt_perm _).mem_iff.mp hq)]

theorem ltb_1 (x y z w : Nat) : ltb ([x], [y]) ([z], [w]) = (decide (x < z) || (decide (x = z) && decide (y < w))) := by
  unfold ltb lxS lxS
  by_cases h : x = z
  · subst h
    rw [if_pos rfl]
    by_cases h2 : y = w
    · subst h2
      rw [if_pos rfl]
      simp [lxS]
    · rw [if_neg fun z => h2 (by have := S_inj.mp z; simpa using this)]
      have : decide ((S [y]).cps.toList < (S [w]).cps.toList) = decide (y < w) := by
        show decide ([y] < [w]) = _
        simp [List.cons_lt_cons_iff]
      rw [this]
      simp
  · rw [if_neg fun z => h (by have := S_inj.mp z; simpa using this)]
    have : decide ((S [x]).cps.toList < (S [z]).cps.toList) = decide (x < z) := by
      show decide ([x] < [z]) = _
      simp [List.cons_lt_cons_iff]
    rw [this]
    simp [h]
section
variable {a b c : Nat}
abbrev co1 (a b c : Nat) (f s x y : Int) : List (Txt × Int) := [([a, b], f), ([a, b, a, b], s), ([b, b, b], x), ([c], y)]
theorem cnt_s1 (h1 : a < b) (f s x y : Int) : cnt [] (ln0 (co1 a b c f s x y)) = [(([a], [b]), f + s + s), (([b], [a]), s), (([b], [b]), x + x)] := by
  have e1 : a ≠ b := by omega
  have e2 : b ≠ a := by omega
  simp [cnt, cntL, ln0, prs, step, putD, look_cons, look_nil, e1, e2]
theorem bst_s1 (h1 : a < b) {f s x : Int} (hf : 999999000 ≤ f) (hs : 999999000 ≤ s) (hx : 1 ≤ x ∧ x ≤ 5) (y : Int) : bst (cnt [] (ln0 (co1 a b c f s x y))) = some ([a], [b]) := by
  have e1 : a ≠ b := by omega
  have e2 : b ≠ a := by omega
  rw [cnt_s1 h1]
  refine bst_top (by simp) (by simp [vG, look_cons]; omega) fun q hq hne => ?_
  simp only [List.map_cons, List.map_nil, List.mem_cons, List.not_mem_nil, or_false] at hq
  rcases hq with rfl | rfl | rfl
  · exact absurd rfl hne
  · simp [vG, look_cons, e1, e2]; omega
  · simp [vG, look_cons, e1, e2]; omega
theorem sure1 (h1 : a < b) {f s x : Int} (hf : 999999000 ≤ f) (hs : 999999000 ≤ s) (hx : 1 ≤ x ∧ x ≤ 5) : mgP 2 1 [] (ln0 (co1 a b c f s x 4)) (0, none) = (0, some ((f + 2 * s) / 2)) := by
  have e1 : a ≠ b := by omega
  have e2 : b ≠ a := by omega
  have e3 : ¬ b < a := by omega
  rw [mgP_some (bst_s1 h1 hf hs hx 4), mgP_zero, show lw1 2 (ln0 (co1 a b c f s x 4)) = ln0 (co1 a b c 0 0 1 0) by simp [ln0, List.mapIdx_cons], show lw0 2 (ln0 (co1 a b c f s x 4)) = ln0 (co1 a b c f s 0 4) by simp [ln0, List.mapIdx_cons], cnt_s1 h1, cnt_s1 h1]
  simp [stM, dem, vG, look_cons, nar, ltb_1, e1, e2, e3, h1]
  congr 1
  omega
theorem sure2 (h1 : a < b) {f s x : Int} (hf : 999999000 ≤ f) (hs : 999999000 ≤ s) (hx : 1 ≤ x ∧ x ≤ 5) : mgP 3 1 [] (ln0 (co1 a b c f s x 4)) (0, none) = (0, none) := by
  have e1 : a ≠ b := by omega
  have e2 : b ≠ a := by omega
  rw [mgP_some (bst_s1 h1 hf hs hx 4), mgP_zero, show lw1 3 (ln0 (co1 a b c f s x 4)) = ln0 (co1 a b c 0 0 0 1) by simp [ln0, List.mapIdx_cons], show lw0 3 (ln0 (co1 a b c f s x 4)) = ln0 (co1 a b c f s x 0) by simp [ln0, List.mapIdx_cons], cnt_s1 h1, cnt_s1 h1]
  simp [stM, dem, vG, look_cons, nar, e1, e2]
theorem cnt_s2 (h1 : a < b) (f s x y : Int) : cnt (addT [] ([a] ++ [b])) (jnL ([a], [b]) (ln0 (co1 a b c f s x y))) = [(([a, b], [a, b]), s), (([b], [b]), x + x)] := by
  have e1 : a ≠ b := by omega
  have e2 : b ≠ a := by omega
  simp [cnt, cntL, ln0, prs, step, putD, look_cons, look_nil, e1, e2, jnL, jn, addT]
theorem sure3 (h1 : a < b) {f s x : Int} (hf : 999999000 ≤ f) (hs : 999999000 ≤ s) (hx : 1 ≤ x ∧ x ≤ 5) : mgP 0 2 [] (ln0 (co1 a b c f s x 4)) (0, none) = (0, none) := by
  have e1 : a ≠ b := by omega
  have e2 : b ≠ a := by omega
  have e3 : ¬ b < a := by omega
  have hb2 : bst (cnt (addT [] ([a] ++ [b])) (jnL ([a], [b]) (ln0 (co1 a b c f s x 4)))) = some ([a, b], [a, b]) := by
    rw [cnt_s2 h1]
    refine bst_top (by simp) (by simp [vG, look_cons]; omega) fun q hq hne => ?_
    simp only [List.map_cons, List.map_nil, List.mem_cons, List.not_mem_nil, or_false] at hq
    rcases hq with rfl | rfl
    · exact absurd rfl hne
    · simp [vG, look_cons, e1, e2]; omega
  have w1 : lw1 0 (jnL ([a], [b]) (ln0 (co1 a b c f s x 4))) = jnL ([a], [b]) (ln0 (co1 a b c 1 0 0 0)) := by simp [ln0, jnL, List.mapIdx_cons]
  have w0 : lw0 0 (jnL ([a], [b]) (ln0 (co1 a b c f s x 4))) = jnL ([a], [b]) (ln0 (co1 a b c 0 s x 4)) := by simp [ln0, jnL, List.mapIdx_cons]
  rw [mgP_some (bst_s1 h1 hf hs hx 4), mgP_some hb2, mgP_zero, w1, w0, show lw1 0 (ln0 (co1 a b c f s x 4)) = ln0 (co1 a b c 1 0 0 0) by simp [ln0, List.mapIdx_cons], show lw0 0 (ln0 (co1 a b c f s x 4)) = ln0 (co1 a b c 0 s x 4) by simp [ln0, List.mapIdx_cons], cnt_s1 h1, cnt_s1 h1, cnt_s2 h1, cnt_s2 h1]
  simp [stM, dem, vG, look_cons, nar, ltb_1, e1, e2, e3, h1]
  omega
abbrev co2 (a b : Nat) (l m : Int) : List (Txt × Int) := [([a, b], l), ([b, b], m)]
theorem cnt_s3 (h1 : a < b) (l m : Int) : cnt [] (ln0 (co2 a b l m)) = [(([a], [b]), l), (([b], [b]), m)] := by
  have e1 : a ≠ b := by omega
  have e2 : b ≠ a := by omega
  simp [cnt, cntL, ln0, prs, step, putD, look_cons, look_nil, e1, e2]
theorem bst_s3 (h1 : a < b) {l m : Int} (hl : 0 ≤ l) (hm : l < m) : bst (cnt [] (ln0 (co2 a b l m))) = some ([b], [b]) := by
  have e1 : a ≠ b := by omega
  have e2 : b ≠ a := by omega
  rw [cnt_s3 h1]
  refine bst_top (by simp) (by simp [vG, look_cons, e1, e2]; omega) fun q hq hne => ?_
  simp only [List.map_cons, List.map_nil, List.mem_cons, List.not_mem_nil, or_false] at hq
  rcases hq with rfl | rfl
  · simp [vG, look_cons, e1, e2]; omega
  · exact absurd rfl hne
theorem sure4 (h1 : a < b) {l m : Int} (hl : 0 ≤ l) (hm : l < m) : mgP 1 1 [] (ln0 (co2 a b l m)) (0, none) = (l + 1, none) := by
  have e1 : a ≠ b := by omega
  have e2 : b ≠ a := by omega
  have e3 : ¬ b < a := by omega
  rw [mgP_some (bst_s3 h1 hl hm), mgP_zero, show lw1 1 (ln0 (co2 a b l m)) = ln0 (co2 a b 0 1) by simp [ln0, List.mapIdx_cons], show lw0 1 (ln0 (co2 a b l m)) = ln0 (co2 a b l 0) by simp [ln0, List.mapIdx_cons], cnt_s3 h1, cnt_s3 h1]
  simp [stM, dem, vG, look_cons, nar, ltb_1, e1, e2, e3, h1]
  omega
theorem sure5 (h1 : a < b) {l m : Int} (hl : 0 ≤ l) (hm : l < m) : mgP 0 1 [] (ln0 (co2 a b l m)) (0, none) = (0, some (m - 1)) := by
  have e1 : a ≠ b := by omega
  have e2 : b ≠ a := by omega
  have e3 : ¬ b < a := by omega
  rw [mgP_some (bst_s3 h1 hl hm), mgP_zero, show lw1 0 (ln0 (co2 a b l m)) = ln0 (co2 a b 1 0) by simp [ln0, List.mapIdx_cons], show lw0 0 (ln0 (co2 a b l m)) = ln0 (co2 a b 0 m) by simp [ln0, List.mapIdx_cons], cnt_s3 h1, cnt_s3 h1]
  simp [stM, dem, vG, look_cons, nar, ltb_1, e1, e2, e3, h1]
abbrev co3 (a b : Nat) : List (Txt × Int) := [([a, b], 0), ([b], 7)]
theorem sure6 : mgP 0 2 [] (ln0 (co3 a b)) (0, none) = (0, some 0) := by
  have hc : ∀ x y, cnt [] (ln0 [([a, b], x), ([b], y)]) = [(([a], [b]), x)] := fun x y => by simp [cnt, cntL, ln0, prs, step, putD, look_nil]
  have hb : bst (cnt [] (ln0 (co3 a b))) = none := by
    rw [hc]
    exact bst_non fun q hq => by
      simp only [List.map_cons, List.map_nil, List.mem_cons, List.not_mem_nil, or_false] at hq
      subst hq
      simp [vG, look_cons]
  rw [mgP_none hb, show lw1 0 (ln0 (co3 a b)) = ln0 [([a, b], 1), ([b], 0)] by simp [ln0, List.mapIdx_cons], show lw0 0 (ln0 (co3 a b)) = ln0 [([a, b], 0), ([b], 7)] by simp [ln0, List.mapIdx_cons], hc, hc]
  simp [stM, dem, vG, look_cons, nar]
theorem sure7 : mgP 1 2 [] (ln0 (co3 a b)) (0, none) = (0, none) := by
  have hc : ∀ x y, cnt [] (ln0 [([a, b], x), ([b], y)]) = [(([a], [b]), x)] := fun x y => by simp [cnt, cntL, ln0, prs, step, putD, look_nil]
  have hb : bst (cnt [] (ln0 (co3 a b))) = none := by
    rw [hc]
    exact bst_non fun q hq => by
      simp only [List.map_cons, List.map_nil, List.mem_cons, List.not_mem_nil, or_false] at hq
      subst hq
      simp [vG, look_cons]
  rw [mgP_none hb, show lw1 1 (ln0 (co3 a b)) = ln0 [([a, b], 0), ([b], 1)] by simp [ln0, List.mapIdx_cons], show lw0 1 (ln0 (co3 a b)) = ln0 [([a, b], 0), ([b], 0)] by simp [ln0, List.mapIdx_cons], hc, hc]
  simp [stM, dem, vG, look_cons, nar]
end
local macro_rules | `(tactic| walk_at "usz") => `(tactic| first
  | with_reducible assumption
  | omega
  | (simp only [List.length_append, List.length_map, List.length_cons, List.length_nil, List.length_range, List.length_set, List.length_reverse, List.length_replicate] ; omega)
  | decide)
local macro_rules | `(tactic| walk_at "uat") => `(tactic| first
  | rfl
  | exact atI_c0
  | exact atI_c1
  | exact atI_c2
  | exact atI_c3
  | exact atI_last
  | exact atI_nat (by assumption)
  | exact atI_nat (atG_map (by assumption)))
local macro_rules | `(tactic| walk_at "ucond") => `(tactic| first
  | (show (0 : Int) < _; omega)
  | (show _ ∧ _; constructor <;> omega)
  | (refine .inl ⟨?_, ?_⟩ <;> omega)
  | (refine .inr ⟨?_, ?_⟩ <;> omega))
local macro_rules | `(tactic| walk_at "us") => `(tactic| first
  | (with_reducible refine u_seq ?_)
  | (with_reducible refine u_set ?_)
  | ((with_reducible refine' u_var ?h1 ?_); (case h1 => rfl))
  | ((with_reducible refine' u_varO ?h1 ?_); (case h1 => rfl))
  | ((with_reducible refine' u_varS ?h1 ?_); (case h1 => rfl))
  | ((with_reducible refine' u_varLL ?h1 ?_); (case h1 => rfl))
  | ((with_reducible refine' u_mov ?h1 ?_); (case h1 => rfl))
  | (with_reducible refine u_c ?_)
  | (with_reducible refine u_of ?_)
  | (with_reducible refine u_ofO ?_)
  | (with_reducible refine u_ofT ?_)
  | (with_reducible refine u_fz ?_)
  | (with_reducible refine u_sh ?_)
  | (with_reducible refine u_nw ?_)
  | (with_reducible refine u_so ?_)
  | (with_reducible refine u_op ?_)
  | (with_reducible refine u_un ?_)
  | (with_reducible refine u_b ?_)
  | (with_reducible refine u_and ?_)
  | (with_reducible refine u_or ?_)
  | (with_reducible refine u_not ?_)
  | (with_reducible refine u_andV ?_)
  | (with_reducible refine u_orV ?_)
  | (with_reducible refine u_notV ?_)
  | (with_reducible refine u_if ?_)
  | (with_reducible refine u_nil ?_)
  | (with_reducible refine u_cons ?_)
  | (with_reducible refine u_call ?_)
  | (with_reducible refine u_no ?_)
  | (with_reducible refine u_some ?_)
  | (with_reducible refine u_sl ?_)
  | (with_reducible refine u_m0 ?_)
  | (with_reducible refine u_m1 ?_)
  | (with_reducible refine u_tru ?_)
  | (with_reducible refine u_truL ?_)
  | (with_reducible refine u_f0 ?_)
  | (with_reducible refine u_fU ?_)
  | (with_reducible refine u_fSS ?_)
  | (with_reducible refine u_inC ?_)
  | (with_reducible refine u_slS ?_)
  | (with_reducible refine u_isN1 ?_)
  | (with_reducible refine u_isNT ?_)
  | (with_reducible refine u_isNL ?_)
  | (with_reducible refine u_isNI ?_)
  | (with_reducible refine u_isNS ?_)
  | (with_reducible refine u_isNB ?_)
  | (with_reducible refine u_slL ?_)
  | (with_reducible refine u_slT ?_)
  | (with_reducible refine u_lenS ?_)
  | (with_reducible refine u_len ?_)
  | (with_reducible refine u_int ?_)
  | (with_reducible refine u_intB ?_)
  | (with_reducible refine u_abs ?_)
  | (with_reducible refine u_min ?_)
  | (with_reducible refine u_max ?_)
  | (with_reducible refine u_sum ?_)
  | (with_reducible refine u_tupL ?_)
  | (with_reducible refine u_listQ ?_)
  | (with_reducible refine u_listS ?_)
  | (with_reducible refine u_inChr ?_)
  | (with_reducible refine u_inS ?_)
  | (with_reducible refine u_inI ?_)
  | (with_reducible refine u_next ?_)
  | ((with_reducible refine' u_frz ?h1 ?_); (case h1 => rfl))
  | (with_reducible refine u_fgt ?_)
  | (with_reducible refine u_gN ?_)
  | (with_reducible refine u_gNil ?_)
  | (with_reducible refine u_gCons ?_)
  | (with_reducible refine u_asg ?_)
  | (with_reducible refine u_asgM ?_)
  | (with_reducible refine u_drop ?_)
  | (with_reducible refine u_dropM ?_)
  | (with_reducible refine u_ret ?_)
  | (with_reducible refine u_retN ?_)
  | (with_reducible refine u_brk ?_)
  | (with_reducible refine u_cont ?_)
  | (with_reducible refine u_ifS ?_)
  | (with_reducible refine u_for ?_)
  | (with_reducible refine u_srcL ?_)
  | (with_reducible refine u_srcR ?_)
  | (with_reducible refine u_srcT ?_)
  | (with_reducible refine u_srcS ?_)
  | (with_reducible refine u_srcR1 ?_)
  | (with_reducible refine u_srcR2 ?_)
  | (with_reducible refine u_srcE ?_)
  | (with_reducible refine u_srcEc ?_)
  | (with_reducible refine u_srcES ?_)
  | (with_reducible refine u_srcZ ?_)
  | (with_reducible refine u_srcV ?_)
  | (with_reducible refine u_lc ?_)
  | (with_reducible refine u_yes ?_)
  | ((with_reducible refine' u_app ?h1 ?_); (case h1 => rfl))
  | (with_reducible refine u_sto ?_)
  | ((with_reducible refine' u_aug ?h1 ?_); (case h1 => rfl))
  | (with_reducible refine u_asL ?_)
  | (with_reducible refine u_asO ?_)
  | (with_reducible refine u_asT ?_)
  | (with_reducible refine u_asB ?_)
  | (with_reducible refine u_asI ?_)
  | (with_reducible refine u_asS ?_)
  | (with_reducible refine u_asH ?_)
  | (with_reducible refine u_asC ?_)
  | (with_reducible refine u_asN ?_)
  | (with_reducible refine u_kI ?_)
  | (with_reducible refine u_kS ?_)
  | (with_reducible refine u_kT ?_)
  | (with_reducible refine u_kB ?_)
  | (with_reducible refine u_kN ?_)
  | ((with_reducible refine' u_appO ?h1 ?_); (case h1 => rfl))
  | ((with_reducible refine' u_popAt ?h1 ?_); (case h1 => rfl))
  | ((with_reducible refine' u_augS ?h1 ?_); (case h1 => rfl))
  | ((with_reducible refine' u_appIn ?h1 ?_); (case h1 => rfl))
  | ((with_reducible refine' u_stoA ?h1 ?_); (case h1 => rfl))
  | ((with_reducible refine' u_pop ?h1 ?_); (case h1 => rfl))
  | (with_reducible refine u_le fun _ => ?_)
  | (with_reducible refine u_zip fun _ _ => ?_)
  | (with_reducible refine u_tup ?_)
  | (with_reducible refine u_lst ?_)
  | ((with_reducible refine' u_sz ?h0 ?_); (case h0 => walk_at "usz"))
  | ((with_reducible refine' u_appQ ?h0 ?h1 ?_); (case h0 => rfl); (case h1 => walk_at "usz"))
  | ((with_reducible refine' u_appOQ ?h0 ?h1 ?_); (case h0 => rfl); (case h1 => walk_at "usz"))
  | ((with_reducible refine' u_ix ?h0 ?_); (case h0 => walk_at "uat"))
  | ((with_reducible refine' u_ixT ?h0 ?_); (case h0 => walk_at "uat"))
  | ((with_reducible refine' u_ixS ?h0 ?_); (case h0 => walk_at "uat"))
  | ((with_reducible refine' u_ixScr ?h0 ?_); (case h0 => walk_at "uat"))
  | ((with_reducible refine' u_ixAT ?h0 ?_); (case h0 => walk_at "uat"))
  | ((with_reducible refine' u_ixAL ?h0 ?_); (case h0 => walk_at "uat"))
  | ((with_reducible refine' u_ixAS ?h0 ?_); (case h0 => walk_at "uat"))
  | ((with_reducible refine' u_fI ?h0 ?_); (case h0 => walk_at "ucond"))
  | ((with_reducible refine' u_addS ?h0 ?_); (case h0 => walk_at "usz"))
  | ((with_reducible refine' u_r1 ?h0 ?h1 ?_); (case h0 => walk_at "usz"); (case h1 => walk_at "usz"))
  | ((with_reducible refine' u_r2 ?h0 ?_); (case h0 => walk_at "usz"))
  | ((with_reducible refine' u_cat ?h0 ?_); (case h0 => walk_at "usz"))
  | ((with_reducible refine' u_catT ?h0 ?_); (case h0 => walk_at "usz"))
  | ((with_reducible refine' u_gTup ?h0 ?_); (case h0 => rfl))
  | ((with_reducible refine' u_lt ?h0 ?_); (case h0 => walk_at "usz"))
  | ((with_reducible refine' u_stoQ ?h0 ?_); (case h0 => walk_at "uat"))
  | (with_reducible refine u_isiIT ?_)
  | (with_reducible refine u_isiIL ?_)
  | (with_reducible refine u_isiSB ?_)
  | (with_reducible refine u_isiST ?_)
  | (with_reducible refine u_isiSL ?_)
  | (with_reducible refine u_isiTI ?_)
  | (with_reducible refine u_isiTB ?_)
  | (with_reducible refine u_isiTS ?_)
  | (with_reducible refine u_isiLI ?_)
  | (with_reducible refine u_isiLB ?_)
  | (with_reducible refine u_isiLS ?_)
  | (with_reducible refine u_isiBS ?_)
  | (with_reducible refine u_isiBT ?_)
  | (with_reducible refine u_isiBL ?_)
  | (with_reducible refine u_isiNI ?_)
  | (with_reducible refine u_isiNB ?_)
  | (with_reducible refine u_isiNS ?_)
  | (with_reducible refine u_isiNT ?_)
  | (with_reducible refine u_isiNL ?_)
  | (with_reducible refine u_isiII ?_)
  | (with_reducible refine u_isiIB ?_)
  | (with_reducible refine u_isiIS ?_)
  | (with_reducible refine u_isiSS ?_)
  | (with_reducible refine u_isiSI ?_)
  | (with_reducible refine u_isiTT ?_)
  | (with_reducible refine u_isiTL ?_)
  | (with_reducible refine u_isiLL ?_)
  | (with_reducible refine u_isiLT ?_)
  | (with_reducible refine u_isiBB ?_)
  | (with_reducible refine u_isiBI ?_)
  | ((with_reducible refine' u_isiS ?h1 ?_); (case h1 => rfl))
  | ((with_reducible refine' u_isiI ?h1 ?_); (case h1 => rfl))
  | ((with_reducible refine' u_isiB ?h1 ?_); (case h1 => rfl))
  | ((with_reducible refine' u_isiT ?h1 ?_); (case h1 => rfl))
  | ((with_reducible refine' u_isiL ?h1 ?_); (case h1 => rfl))
  | ((with_reducible refine' u_isiN ?h1 ?_); (case h1 => rfl))
  | (with_reducible refine u_raise ?_)
  | (with_reducible refine u_callE ?_)
  | (with_reducible refine u_setE ?_)
  | (with_reducible refine u_dropE ?_)
  | (with_reducible refine u_retE ?_)
  | (with_reducible refine u_try ?_)
  | (with_reducible refine u_tryAs ?_)
  | (with_reducible refine u_asD ?_)
  | (with_reducible refine u_asDT ?_)
  | (with_reducible refine u_ofD ?_)
  | (with_reducible refine u_ofDT ?_)
  | (with_reducible refine u_dnew ?_)
  | (with_reducible refine u_dnewT ?_)
  | (with_reducible refine u_dget2 ?_)
  | (with_reducible refine u_dget2T ?_)
  | (with_reducible refine u_dput ?_)
  | (with_reducible refine u_dputT ?_)
  | (with_reducible refine u_par ?_)
  | (with_reducible refine u_ch ?_)
  | (with_reducible refine u_notT ?_)
  | (with_reducible refine u_revS ?_)
  | (with_reducible refine u_revL ?_)
  | (with_reducible refine u_rg1 ?_)
  | (with_reducible refine u_rg2 ?_)
  | (with_reducible refine u_rg2Q ?_)
  | (with_reducible refine u_listRg ?_)
  | (with_reducible refine u_tupRg ?_)
  | (with_reducible refine u_srcRR ?_)
  | ((with_reducible refine' u_vdO ?h1 ?_); (case h1 => rfl))
  | ((with_reducible refine' u_vdS ?h1 ?_); (case h1 => rfl))
  | ((with_reducible refine' u_vdA ?h1 ?_); (case h1 => rfl))
  | ((with_reducible refine' u_vdTO ?h1 ?_); (case h1 => rfl))
  | ((with_reducible refine' u_vdTS ?h1 ?_); (case h1 => rfl))
  | ((with_reducible refine' u_din ?h1 ?_); (case h1 => rfl))
  | ((with_reducible refine' u_dinT ?h1 ?_); (case h1 => rfl))
  | ((with_reducible refine' u_dg2Q ?h1 ?_); (case h1 => rfl))
  | ((with_reducible refine' u_dg2TQ ?h1 ?_); (case h1 => rfl))
  | ((with_reducible refine' u_dpA ?h1 ?_); (case h1 => rfl))
  | ((with_reducible refine' u_dpTA ?h1 ?_); (case h1 => rfl))
  | ((with_reducible refine' u_ext ?h1 ?_); (case h1 => rfl))
  | ((with_reducible refine' u_revI ?h1 ?_); (case h1 => rfl))
  | ((with_reducible refine' u_raQ ?h1 ?h2 ?h3 ?_); (case h1 => rfl); (case h2 => decide); (case h3 => decide))
  | ((with_reducible refine' u_xf ?h1 ?h2 ?_); (case h1 => rfl); (case h2 => rfl))
  | ((with_reducible refine' u_rgQ ?h1 ?_); (case h1 => walk_at "usz"))
  | (with_reducible refine u_mN ?_)
  | ((with_reducible refine' u_isX ?h1 ?h2 ?h3 ?_); (case h1 => rfl); (case h2 => rfl); (case h3 => rfl))
  | ((with_reducible refine' u_isXT ?h1 ?h2 ?h3 ?_); (case h1 => rfl); (case h2 => rfl); (case h3 => rfl))
  | (with_reducible refine u_ofA ?_)
  | (with_reducible refine u_asAT ?_)
  | (with_reducible refine u_asAL ?_)
  | ((with_reducible refine' u_mapT ?h1 ?h2 ?_); (case h1 => walk_at "usz"); (case h2 => assumption))
  | (with_reducible refine u_tryFst ?_)
  | (with_reducible refine u_call0 ?_)
  | (with_reducible refine u_srcET ?_)
  | ((with_reducible refine' u_varA ?h1 ?_); (case h1 => rfl))
  | ((with_reducible refine' u_stoMQ ?h1 ?_); (case h1 => walk_at "uat"))
  | (with_reducible refine u_retA ?_)
  | ((with_reducible refine' u_retAQ ?h1 ?_); (case h1 => rfl))
  | ((with_reducible refine' u_appA ?h1 ?_); (case h1 => rfl))
  | ((with_reducible refine' u_appAQ ?h1 ?h2 ?_); (case h1 => rfl); (case h2 => walk_at "usz"))
  | (with_reducible refine u_stoM ?_)
  | ((with_reducible refine' u_stoM2 ?h1 ?_); (case h1 => rfl))
  | (with_reducible refine u_callK ?_)
  | ((with_reducible refine' u_callKQ ?h1 ?_); (case h1 => rfl))
  | (with_reducible refine u_retK ?_)
  | (with_reducible refine u_callF ?_)
  | (with_reducible refine u_callFA ?_)
  | ((with_reducible refine' u_callFAQ ?h1 ?_); (case h1 => rfl))
  | ((with_reducible refine' u_callFQ ?h1 ?_); (case h1 => rfl))
  | ((with_reducible refine' u_first ?h1 ?_); (case h1 => rfl))
  | ((with_reducible refine' u_retKQ ?h1 ?_); (case h1 => rfl))
  | ((with_reducible refine' u_unl ?h1 ?_); (case h1 => rfl))
  | (with_reducible refine u_callM ?_)
  | ((with_reducible refine' u_callMQ ?h1 ?_); (case h1 => rfl))
  | ((with_reducible refine' u_nilM ?h1 ?_); (case h1 => rfl))
  | (with_reducible refine u_ifM ?_)
  | (with_reducible refine u_ifMTt ?_)
  | (with_reducible refine u_ifMTf ?_)
  | (with_reducible refine u_ifMFt ?_)
  | (with_reducible refine u_ifMFf ?_)
  | (with_reducible refine u_eqDI1 ?_)
  | ((with_reducible refine' u_eqDIf ?h1 ?_); (case h1 => first | (with_reducible assumption) | decide))
  | (with_reducible refine u_dc ?_)
  | (with_reducible refine u_sortSet ?_)
  | (with_reducible refine u_srcR3 ?_)
  | ((with_reducible refine' u_r3 ?h0 ?_); (case h0 => walk_at "usz"))
  | (with_reducible refine u_psNil ?_)
  | (with_reducible refine u_dnewD ?_)
  | (with_reducible refine u_dinD ?_)
  | ((with_reducible refine' u_dinDQ ?h1 ?h2 ?_); (case h1 => rfl); (case h2 => rfl))
  | ((with_reducible refine' u_dputL ?h1 ?_); (case h1 => rfl))
  | ((with_reducible refine' u_dputLQ ?h1 ?_); (case h1 => rfl))
  | ((with_reducible refine' u_alias ?h1 ?h2 ?h3 ?_); (case h1 => rfl); (case h2 => simp); (case h3 => decide))
  | ((with_reducible refine' u_aliasQ ?h1 ?_); (case h1 => walk_at "usz"))
  | ((with_reducible refine' u_fld ?h1 ?h2 ?_); (case h1 => rfl); (case h2 => rfl))
  | (with_reducible refine u_setF ?_)
  | ((with_reducible refine' u_setFQ ?h1 ?h2 ?_); (case h1 => rfl); (case h2 => first | decide | exact (Nat.lt_of_le_of_lt (Nat.le_of_eq (rfl : _ = 2)) (by decide))))
  | ((with_reducible refine' u_meth ?h1 ?h2 ?_); (case h1 => rfl); (case h2 => rfl))
  | (with_reducible refine u_callO ?_)
  | ((with_reducible refine' u_callOQ ?h1 ?_); (case h1 => rfl))
  | ((with_reducible refine' u_callOX ?h1 ?_); (case h1 => rfl))
  | ((with_reducible refine' u_callOXQ ?h1 ?_); (case h1 => rfl))
  | (with_reducible refine u_nilX ?_)
  | (with_reducible refine u_consX ?_)
  | (with_reducible refine u_consMX ?_)
  | (with_reducible refine u_consMQ ?_)
  | (with_reducible refine u_make ?_)
  | (with_reducible refine u_dnewE ?_)
  | (with_reducible refine u_dinE ?_)
  | ((with_reducible refine' u_dinEQ ?h1 ?h2 ?_); (case h1 => rfl); (case h2 => rfl))
  | ((with_reducible refine' u_dputE ?h1 ?_); (case h1 => rfl))
  | ((with_reducible refine' u_dputEQ ?h1 ?_); (case h1 => rfl))
  | ((with_reducible refine' u_take ?h1 ?h2 ?h3 ?_); (case h1 => rfl); (case h2 => simp); (case h3 => decide))
  | ((with_reducible refine' u_fk ?h1 ?_); (case h1 => rfl))
  | ((with_reducible refine' u_dgetT ?h1 ?h2 ?_); (case h1 => rfl); (case h2 => with_reducible assumption))
  | ((with_reducible refine' u_dget ?h1 ?h2 ?_); (case h1 => rfl); (case h2 => with_reducible assumption))
  | (with_reducible refine u_psCons ?_)
  | (with_reducible refine u_disp ?_)
  | ((with_reducible refine' u_dispQ ?h1 ?h2 ?_); (case h1 => rfl); (case h2 => decide))
  | (with_reducible refine u_asSc ?_)
  | (with_reducible refine u_srcScr ?_)
  | (with_reducible refine u_srcEScr ?_)
  | (with_reducible refine u_slScr ?_)
  | (with_reducible refine u_lenScr ?_)
  | (with_reducible refine iteT ?_)
  | (with_reducible refine iteF ?_)
  | ((with_reducible refine' ite_dT ?h1 ?_); (case h1 => rfl))
  | ((with_reducible refine' ite_ndT ?h1 ?_); (case h1 => rfl))
  | (with_reducible refine ite_nt ?_)
  | (with_reducible refine ite_nf ?_))
local macro_rules | `(tactic| walk_at "u") => `(tactic| repeat walk_at "us")
section
variable {P : Program} {w : World} {K : PySem.W.Frag} {PO : POk} {mg : Str → Option Value} {base : Heap}
abbrev s_Margin_init : Stmt := inClass (topS 7) 0
theorem sc_Margin_init : FnScope ["self"] ["self"] (defScope s_Margin_init) := ⟨rfl, rfl, rfl, by decide +kernel, rfl, by decide +kernel, by decide +kernel⟩
theorem ok_Margin_init {C_Margin : Addr} (T_Margin : ObC K mg "Margin" C_Margin ["least", "greatest"]) (F : IAt K C_Margin "Margin.__init__" s_Margin_init) : CalMk P w K PO mg base 1 C_Margin sp_init := by
  obtain ⟨f, fd, hM, F⟩ := F.ex
  refine ⟨f, fd, ["self"], hM, fn_O 0 F sc_Margin_init (fun ds fs post h => ?_) rfl (fun cdv A outer s H E a dx hr => ?_), F.binds (fun _ _ _ _ _ _ us hl => match us, hl with | [_], _ => rfl)⟩
  · obtain ⟨rfl, _⟩ := h
    rfl
  refine ⟨_, _, (qb_cons (qs_setF (i := 0) rfl T_Margin.cl (T_Margin.no _ (by simp)) (pv 0) qe_int)
      (qb_one (qs_setF (i := 0) rfl T_Margin.cl (T_Margin.no _ (by simp)) (pv 0) qe_non))), fun ds fs post h => ?_⟩
  obtain ⟨rfl, rfl, q⟩ := h
  refine en_is (ρ := [some (.ob (.obj a) a dx C_Margin [])]) rfl ?_
  walk_at "u"
  exact ⟨_, rfl, q⟩
abbrev s_Margin_narrow : Stmt := inClass (topS 7) 1
theorem sc_Margin_narrow : FnScope ["self", "slope", "base", "most"] ["self", "slope", "base"] (defScope s_Margin_narrow) := ⟨rfl, rfl, rfl, by decide +kernel, rfl, by decide +kernel, by decide +kernel⟩
theorem ok_Margin_narrow {C_Margin : Addr} (T_Margin : ObC K mg "Margin" C_Margin ["least", "greatest"]) (b_max : mg "max" = none) (F : MAt K C_Margin "narrow" "Margin.narrow" s_Margin_narrow) : CalMt P w K PO mg base 1 C_Margin "narrow" sp_narrow := by
  obtain ⟨f, fd, hM, F⟩ := F.ex
  refine ⟨f, fd, ["self", "slope", "base"], hM, fn_O 2 F sc_Margin_narrow (fun ds fs post h => ?_) rfl (fun cdv A outer s H E a dx hr => ?_), F.binds (fun _ _ _ _ _ _ us hl => match us, hl with | [_, _, _], _ => rfl)⟩
  · obtain ⟨sl, ba, s, rfl, _⟩ := h
    rfl
  refine ⟨_, _, (qb_cons (qs_if (qt_cmp op_gt s2_B (qv 1) qe_int (nomark _)) (qb_one (qs_setF (i := 0) rfl T_Margin.cl (T_Margin.no _ (by simp)) (pv 0) (qe_bn (call_maxI rfl) sn_max (by rfl) b_max (by decide +kernel) (qa_cons (qx_fld (i := 0) rfl T_Margin.cl (T_Margin.no _ (by simp)) (pv 0)) (qa_cons (qe_neg (qe_op op_fdiv s2_I (qv 2) (qv 1))) qa_nil))))) qb_nil)
      (qb_one (qs_if (qt_cmp op_lt s2_B (qv 1) qe_int (nomark _)) (qb_cons (qs_set (i := 3) sc_Margin_narrow.nd rfl (.inl rfl) (qm_of (qe_op op_fdiv s2_I (qv 2) (qe_neg (qv 1)))))
      (qb_one (qs_if (qw (qw_or (qt_cmp op_isN2 s2_isN (qx_fld (i := 0) rfl T_Margin.cl (T_Margin.no _ (by simp)) (pv 0)) qe_non (nomark _)) (qw_or1 (qt_cmp op_lt s2_B (qv 3) (qx_fld (i := 0) rfl T_Margin.cl (T_Margin.no _ (by simp)) (pv 0)) (nomark _))))) (qb_one (qs_setF (i := 0) rfl T_Margin.cl (T_Margin.no _ (by simp)) (pv 0) (qv 3))) qb_nil))) qb_nil))), fun ds fs post h => ?_⟩
  obtain ⟨sl, ba, ⟨l, g⟩, rfl, rfl, hsl, q⟩ := h
  refine en_is (ρ := [some (.ob (.obj a) a dx C_Margin (mF (l, g))), some (.sh (.int sl)), some (.sh (.int ba)), none]) rfl ?_
  walk_at "u"
  rcases Int.lt_trichotomy sl 0 with h | h | h
  · refine ite_f (decide_eq_false (by omega)) ?_
    walk_at "u"
    refine ite_t (decide_eq_true h) ?_
    walk_at "u"
    cases g with
    | none =>
      rw [show nar (l, none) sl ba = (l, some (ba / -sl)) by unfold nar; rw [if_neg (by omega), if_pos h]] at q
      rw [show oI (l, (none : Option Int)).2 = PV.non from rfl]
      walk_at "u"
      exact ⟨_, rfl, q⟩
    | some g =>
      rw [show nar (l, some g) sl ba = (l, if ba / -sl < g then some (ba / -sl) else some g) by unfold nar; rw [if_neg (by omega), if_pos h]] at q
      rw [show oI (l, some g).2 = PV.int g from rfl]
      walk_at "u"
      rw [show oI (l, some g).2 = PV.int g from rfl]
      walk_at "u"
      refine ite2 (fun e => ?_) (fun e => ?_)
      · have e := of_decide_eq_true e
        rw [if_pos e] at q
        walk_at "u"
        exact ⟨_, rfl, q⟩
      · have e := of_decide_eq_false e
        rw [if_neg e] at q
        walk_at "u"
        exact ⟨_, rfl, q⟩
  · subst h
    rw [nar_zero] at q
    refine ite_f (by decide) ?_
    walk_at "u"
    refine ite_f (by decide) ?_
    walk_at "u"
    exact ⟨_, rfl, q⟩
  · rw [show nar (l, g) sl ba = (max l (-(ba / sl)), g) by unfold nar; rw [if_pos h, if_neg (by omega)]] at q
    refine ite_t (decide_eq_true h) ?_
    walk_at "u"
    refine ite_f (decide_eq_false (by omega)) ?_
    walk_at "u"
    exact ⟨_, rfl, q⟩
abbrev s_joined_once : Stmt := topS 1
theorem sc_joined_once : FnScope ["pieces", "left", "right", "told", "at"] ["pieces", "left", "right"] (defScope s_joined_once) := ⟨rfl, rfl, rfl, by decide +kernel, rfl, by decide +kernel, by decide +kernel⟩
theorem ok_joined_once (b_len : mg "len" = none) (F : At K mg "joined_once" s_joined_once) : CalV P w K PO mg base 1 "joined_once" sp_joined := by
  refine F.calV sc_joined_once (fun ds post h => ?_) (fun _ _ _ _ _ _ us hl => match us, hl with | [_, _, _], _ => rfl) (fun f cdv A outer s H E hr => ?_)
  · obtain ⟨l, r, p, rfl, _⟩ := h
    rfl
  refine ⟨_, _, (qb_cons (qs_set (i := 3) sc_joined_once.nd rfl (.inl rfl) (qm_new (qo_lst qa_nil)))
      (qb_cons (qs_set (i := 4) sc_joined_once.nd rfl (.inl rfl) (qm_of qe_int))
      (qb_cons (qs_while PassesOwn.never (qt_cmp op_lt s2_B (qv 4) (qe_b1 (r := zLenQ K) call_lenQ s1_len (by rfl) b_len PySem.boot_len (qq_l (qvl 0))) (nomark _))
      (qb_one (qs_if (qw (qw_and (qt_cmp op_eqS s2_eqS (qe_ix (r := rIxL K) ix_list s2_ixL (qvl 0) (qv 4) (fun _ _ => rfl)) (qv 1) (nomark _)) (qw_and (qt_cmp op_lt s2_B (qe_op op_add s2_0 (qv 4) qe_int) (qe_b1 (r := zLenQ K) call_lenQ s1_len (by rfl) b_len PySem.boot_len (qq_l (qvl 0))) (nomark _)) (qw_and1 (qt_cmp op_eqS s2_eqS (qe_ix (r := rIxL K) ix_list s2_ixL (qvl 0) (qe_op op_add s2_0 (qv 4) qe_int) (fun _ _ => rfl)) (qv 2) (nomark _)))))) (qb_cons (qs_app (i := 3) rfl (qm_of (qe_op op_addS s2_addS (qv 1) (qv 2))) (fun h => pe_bm PySem.F.plainAttrs_list PySem.F.slot_list_append PySem.F.type_list_append mt_append (pv 3) (pa_cons h pa_nil)))
      (qb_one (qs_aug (i := 4) qe_int (fun h => ps_aug (i := 4) sc_joined_once.nd rfl (.inl rfl) h ip_add)))) (qb_cons (qs_app (i := 3) rfl (qm_of (qe_ix (r := rIxL K) ix_list s2_ixL (qvl 0) (qv 4) (fun _ _ => rfl))) (fun h => pe_bm PySem.F.plainAttrs_list PySem.F.slot_list_append PySem.F.type_list_append mt_append (pv 3) (pa_cons h pa_nil)))
      (qb_one (qs_aug (i := 4) qe_int (fun h => ps_aug (i := 4) sc_joined_once.nd rfl (.inl rfl) h ip_add)))))))
      (qb_one (qs_ret (qmov 3)))))), fun ds post h => ?_⟩
  obtain ⟨l, r, p, rfl, hp, hlr, q⟩ := h
  refine en_is (ρ := [some (.sh (lP p)), some (.sh (.str l)), some (.sh (.str r)), none, none]) rfl ?_
  walk_at "u"
  refine u_while (fun m ρ => ∃ (i : Nat) (q1 : List Txt), i ≤ p.length ∧ q1.length ≤ i ∧ jn l r p = q1 ++ jn l r (p.drop i) ∧ m = p.length - i ∧ ρ = [some (.sh (lP p)), some (.sh (.str l)), some (.sh (.str r)), some (.ol (q1.map .str)), some (.sh (.int (i : Nat)))]) p.length ⟨0, [], Nat.zero_le _, Nat.le_refl _, by rw [List.drop_zero]; rfl, rfl, rfl⟩ ?_
  rintro m ρ1 ⟨i, q1, hi, hq, he, rfl, rfl⟩
  have hql : (q1.map PV.str).length = q1.length := List.length_map _
  have hpl : (p.map PV.str).length = p.length := List.length_map _
  walk_at "u"
  refine ite2 (fun h => ?_) (fun h => ?_)
  · have h := of_decide_eq_true h
    have hlt : i < p.length := by omega
    obtain ⟨x, hx⟩ : ∃ x, p[i]? = some x := ⟨_, List.getElem?_eq_getElem hlt⟩
    have fin : ¬ (x = l ∧ p[i + 1]? = some r) → ∃ m', m' < p.length - i ∧ ∃ (i' : Nat) (q2 : List Txt), i' ≤ p.length ∧ q2.length ≤ i' ∧ jn l r p = q2 ++ jn l r (p.drop i') ∧ m' = p.length - i' ∧
        ([some (.sh (lP p)), some (.sh (.str l)), some (.sh (.str r)), some (.ol (q1.map .str ++ [.str x])), some (.sh (.int ((i : Int) + 1)))] : En) = [some (.sh (lP p)), some (.sh (.str l)), some (.sh (.str r)), some (.ol (q2.map .str)), some (.sh (.int (i' : Nat)))] := fun hn => by
      refine ⟨p.length - (i + 1), by omega, i + 1, q1 ++ [x], by omega, by rw [List.length_append]; simp only [List.length_cons, List.length_nil]; omega, ?_, rfl, ?_⟩
      · rw [he, jn_drop_ne hx hn, List.append_assoc]; rfl
      · rw [List.map_append]; rfl
    walk_at "u"
    refine ite2 (fun e => ?_) (fun e => ?_)
    · have e := of_decide_eq_true e
      subst e
      walk_at "u"
      refine ite2 (fun e2 => ?_) (fun e2 => ?_)
      · have e2 := of_decide_eq_true e2
        have hlt2 : i + 1 < p.length := by omega
        obtain ⟨y, hy⟩ : ∃ y, p[i + 1]? = some y := ⟨_, List.getElem?_eq_getElem hlt2⟩
        walk_at "u"
        refine ite2 (fun e3 => ?_) (fun e3 => ?_)
        · have e3 := of_decide_eq_true e3
          subst e3
          walk_at "u"
          refine ⟨p.length - (i + 2), by omega, i + 2, q1 ++ [x ++ y], by omega, by rw [List.length_append]; simp only [List.length_cons, List.length_nil]; omega, ?_, rfl, ?_⟩
          · rw [he, jn_drop_eq hx hy, List.append_assoc]; rfl
          · rw [List.map_append]; rfl
        · have e3 := of_decide_eq_false e3
          walk_at "u"
          exact fin fun z => by rw [hy] at z; exact e3 (Option.some.inj z.2)
      · have e2 := of_decide_eq_false e2
        walk_at "u"
        exact fin fun z => by have := (List.getElem?_eq_some_iff.mp z.2).1; omega
    · have e := of_decide_eq_false e
      walk_at "u"
      exact fin fun z => e z.1
  · have h := of_decide_eq_false h
    have hie : i = p.length := by omega
    subst hie
    rw [List.drop_length, show jn l r [] = [] from rfl, List.append_nil] at he
    walk_at "u"
    rw [← he]
    exact q
abbrev s_pair_counts : Stmt := topS 3
theorem sc_pair_counts : FnScope ["rows", "counts", "taken", "found", "pieces", "count", "left", "right"] ["rows", "counts", "taken"] (defScope s_pair_counts) := ⟨rfl, rfl, rfl, by decide +kernel, rfl, by decide +kernel, by decide +kernel⟩
theorem ok_pair_counts (b_zip : mg "zip" = none) (F : At K mg "pair_counts" s_pair_counts) : CalK P w K PO mg base 1 "pair_counts" sp_pair_counts := by
  refine F.calK 2 sc_pair_counts (fun ds es post h => ?_) rfl (fun _ _ _ _ _ _ us hl => match us, hl with | [_, _, _], _ => rfl) (fun f cdv A outer s H E ad hr => ?_)
  · obtain ⟨ls, tk, rfl, rfl, _⟩ := h
    rfl
  refine ⟨_, _, (qb_cons (qs_set (i := 3) sc_pair_counts.nd rfl (.inl rfl) (qm_new qo_dnewT))
      (qb_cons (qs_for PassesOwn.never rfl (qi_zip rfl (by rfl) b_zip (qv 0) (qv 1)) (qg_tup rfl rfl (qgs_cons (qg_name (i := 4) sc_pair_counts.nd rfl (.inl rfl)) (qgs_cons (qg_name (i := 5) sc_pair_counts.nd rfl (.inl rfl)) qgs_nil)))
      (qb_one (qs_for PassesOwn.never rfl (qi_zip rfl (by rfl) b_zip (qv 4) (qe_new (qo_sl (r := rSlL K) sl_list s3_slL (qvl 4) (qp_some qe_int) qp_no))) (qg_tup rfl rfl (qgs_cons (qg_name (i := 6) sc_pair_counts.nd rfl (.inl rfl)) (qgs_cons (qg_name (i := 7) sc_pair_counts.nd rfl (.inl rfl)) qgs_nil)))
      (qb_one (qs_if (qt_din (qc_dnin hr.units1 (qe_op op_addS s2_addS (qv 6) (qv 7)) (qvd 2))) (qb_one (qs_dputT (i := 3) (qe_tup (qa_cons (qv 6) (qa_cons (qv 7) qa_nil))) (qe_op op_add s2_0 (qe_dget2T hr.units1 (qvdT 3) (qe_tup (qa_cons (qv 6) (qa_cons (qv 7) qa_nil))) qe_int ⟨rfl, rfl, rfl, rfl⟩) (qv 5)) (fun h => pg_sub (pv 3) h (set_dict hr.units1)))) qb_nil)))))
      (qb_one (qs_frz 3 (qs_retK 2 (qm_of (qv 3))))))), fun ds es post h => ?_⟩
  obtain ⟨ls, tk, rfl, rfl, ok, q⟩ := h
  refine en_is (ρ := [some (.sh (.lst (ls.map fun z => lP z.1))), some (.sh (.lst (ls.map fun z => .int z.2))), some (.atK (.obj ad) ad (kvT tk (.bl true))), none, none, none, none, none]) rfl ?_
  walk_at "u"
  rw [zipV_map]
  refine u_forT (xs := ls) (f := fun z => .tup [lP z.1, .int z.2]) (fun i ρ => ∃ y1 y2 y3 y4, ρ = [some (.sh (.lst (ls.map fun z => lP z.1))), some (.sh (.lst (ls.map fun z => .int z.2))), some (.atK (.obj ad) ad (kvT tk (.bl true))), some (.oT (kvF ((ls.take i).foldl (cntL tk) []))), y1, y2, y3, y4]) ⟨_, _, _, _, rfl⟩ ?_ ?_
  · rintro i z ρ1 hz ⟨y1, y2, y3, y4, rfl⟩
    obtain ⟨o1, o2⟩ := cnt_ok (tk := tk) (ok.take i)
    unfold cnt at o1 o2
    have zb := ok.bd z (List.mem_of_getElem? hz)
    obtain ⟨zb1, zb2, zb3⟩ := id zb
    rw [fold_take hz]
    generalize (ls.take i).foldl (cntL tk) [] = f0 at *
    walk_at "u"
    rw [zip_prs]
    refine u_forT (xs := prs z.1) (f := pP) (fun j ρ => ∃ y3 y4, ρ = [some (.sh (.lst (ls.map fun z => lP z.1))), some (.sh (.lst (ls.map fun z => .int z.2))), some (.atK (.obj ad) ad (kvT tk (.bl true))), some (.oT (kvF (((prs z.1).take j).foldl (step tk z.2) f0))), some (.sh (lP z.1)), some (.sh (.int z.2)), y3, y4]) ⟨_, _, rfl⟩ ?_ ?_
    · rintro j p ρ2 hp ⟨y3, y4, rfl⟩
      have hj := (List.getElem?_eq_some_iff.mp hp).1
      have hpm := List.mem_of_getElem? hp
      have hpl := prs_len hpm
      have hn := prs_n z.1
      obtain ⟨g1, g2⟩ := steps_ok (tk := tk) (m := 80) (c := z.2) ((prs z.1).take j) f0 o1 fun p' hp' => zb.pair (List.mem_of_mem_take hp')
      rw [List.length_take] at g2
      rw [fold_take hp]
      generalize ((prs z.1).take j).foldl (step tk z.2) f0 = g at *
      walk_at "u"
      rw [show (lookD (kvT tk (PV.bl true)) (Sum.inr (S (p.1 ++ p.2)))).isSome = decide (p.1 ++ p.2 ∈ tk) from look_kvT_is tk _ _]
      by_cases e : p.1 ++ p.2 ∈ tk
      · rw [decide_eq_true e, show step tk z.2 g p = g from if_pos e]
        refine ite_f rfl ?_
        walk_at "u"
        exact ⟨_, _, rfl⟩
      · rw [decide_eq_false e, show step tk z.2 g p = putD g p ((lookD g p).getD 0 + z.2) from if_neg e]
        refine ite_t rfl ?_
        walk_at "u"
        rw [show lookD (kvF g) [Sum.inr (S p.1), Sum.inr (S p.2)] = (lookD g p).map PV.int from look_kvF g p, show ((lookD g p).map PV.int).getD (PV.int 0) = PV.int ((lookD g p).getD 0) by cases lookD g p <;> rfl]
        walk_at "u"
        refine u_dpTQ (k := kk p) rfl (kvF_nd g1.nd) (by rw [List.length_map]; omega) ?_
        rw [put_kvF]
        exact ⟨_, _, rfl⟩
    · rintro ρ2 ⟨y3, y4, rfl⟩
      rw [List.take_length]
      exact ⟨_, _, _, _, rfl⟩
  · rintro ρ1 ⟨y1, y2, y3, y4, rfl⟩
    rw [List.take_length]
    walk_at "u"
    exact ⟨_, rfl, q⟩
abbrev s_chosen_pair : Stmt := topS 4
theorem sc_chosen_pair : FnScope ["found", "best", "most", "pair"] ["found"] (defScope s_chosen_pair) := ⟨rfl, rfl, rfl, by decide +kernel, rfl, by decide +kernel, by decide +kernel⟩
theorem ok_chosen_pair (b_sorted : mg "sorted" = none) (F : At K mg "chosen_pair" s_chosen_pair) : CalV P w K PO mg base 1 "chosen_pair" sp_chosen := by
  refine F.calV sc_chosen_pair (fun ds post h => ?_) (fun _ _ _ _ _ _ us hl => match us, hl with | [_], _ => rfl) (fun f cdv A outer s H E hr => ?_)
  · obtain ⟨f, tk, rfl, _⟩ := h
    rfl
  refine ⟨_, _, (qb_cons (qs_set (i := 1) sc_chosen_pair.nd rfl (.inl rfl) (qm_of qe_non))
      (qb_cons (qs_set (i := 2) sc_chosen_pair.nd rfl (.inl rfl) (qm_of qe_int))
      (qb_cons (qs_for PassesOwn.never rfl (qi_list rfl (qe_new (qo_b1 (r := rSortDT) (cr_sortDT rfl) s1_sortDT (by rfl) b_sorted (by decide +kernel) (qvdT 0)))) (qg_name (i := 3) sc_chosen_pair.nd rfl (.inl rfl))
      (qb_one (qs_if (qt_cmp op_gt s2_B (qe_dgetT hr.units1 (qvdT 0) (qv 3) (fun _ _ => rfl)) (qv 2) (nomark _)) (qb_cons (qs_set (i := 1) sc_chosen_pair.nd rfl (.inl rfl) (qm_of (qv 3)))
      (qb_one (qs_set (i := 2) sc_chosen_pair.nd rfl (.inl rfl) (qm_of (qe_dgetT hr.units1 (qvdT 0) (qv 3) (fun _ _ => rfl)))))) qb_nil)))
      (qb_one (qs_ret (qm_of (qv 1))))))), fun ds post h => ?_⟩
  obtain ⟨f, tk, rfl, ok, hl, q⟩ := h
  refine en_is (ρ := [some (.sh (dF f)), none, none, none]) rfl ?_
  walk_at "u"
  refine u_sortF (ok.small (by omega)) ?_
  walk_at "u"
  refine u_forT (xs := srt (f.map (·.1))) (f := pP) (fun i ρ => ∃ y, ρ = [some (.sh (dF f)), some (.sh (oP (((srt (f.map (·.1))).take i).foldl (bs f) (none, 0)).1)), some (.sh (.int (((srt (f.map (·.1))).take i).foldl (bs f) (none, 0)).2)), y]) ⟨_, rfl⟩ ?_ ?_
  · rintro i p ρ1 hp ⟨y, rfl⟩
    obtain ⟨n, hn⟩ := look_some ((srt_perm _).mem_iff.mp (List.mem_of_getElem? hp))
    have hk : lookD (kvF f) (kk p) = some (.int n) := by rw [look_kvF, hn]; rfl
    rw [fold_take hp]
    generalize ((srt (f.map (·.1))).take i).foldl (bs f) (none, 0) = s at *
    walk_at "u"
    refine u_dgetT (k := kk p) rfl hk ?_
    walk_at "u"
    have hg : (lookD f p).getD 0 = n := by rw [hn]; rfl
    refine ite2 (fun e => ?_) (fun e => ?_)
    · have e := of_decide_eq_true e
      walk_at "u"
      refine u_dgetT (k := kk p) rfl hk ?_
      walk_at "u"
      rw [show bs f s p = (some p, n) by unfold bs; rw [hg, if_pos e]]
      exact ⟨_, rfl⟩
    · have e := of_decide_eq_false e
      walk_at "u"
      rw [show bs f s p = s by unfold bs; rw [hg, if_neg e]]
      exact ⟨_, rfl⟩
  · rintro ρ1 ⟨y, rfl⟩
    rw [List.take_length]
    walk_at "u"
    exact q
abbrev s_trained_steps : Stmt := topS 5
theorem sc_trained_steps : FnScope ["corpus", "steps", "rows", "counts", "taken", "told", "_", "found", "pair", "text", "count", "pieces"] ["corpus", "steps"] (defScope s_trained_steps) := ⟨rfl, rfl, rfl, by decide +kernel, rfl, by decide +kernel, by decide +kernel⟩
theorem ok_trained_steps (c_chosen_pair : CalV P w K PO mg base 1 "chosen_pair" sp_chosen) (c_joined_once : CalV P w K PO mg base 1 "joined_once" sp_joined) (c_pair_counts : CalK P w K PO mg base 1 "pair_counts" sp_pair_counts) (b_list : mg "list" = none) (b_range : mg "range" = none) (F : At K mg "trained_steps" s_trained_steps) : CalV P w K PO mg base 2 "trained_steps" sp_steps := by
  refine F.calV sc_trained_steps (fun ds post h => ?_) (fun _ _ _ _ _ _ us hl => match us, hl with | [_, _], _ => rfl) (fun f cdv A outer s H E hr => ?_)
  · obtain ⟨ls, cs, n, rfl, _⟩ := h
    rfl
  refine ⟨_, _, (qb_cons (qs_setLcS (i := 2) rfl sc_trained_steps.nd rfl rfl (sw_true rfl rfl rfl (by decide +kernel)) (own := [("text", 9), ("count", 10)]) (g := gTup K 2 (gCons (gName 9) (gCons (gName 10) gNil))) (q := gpTup 2 (gpCons (gpN 9) (gpCons (gpN 10) gpNil))) (tt := tYes) (pt := pYes) (qic_of (qi_tup rfl (qv 0))) (blkOk_by (N := ["corpus", "steps", "rows", "counts", "taken", "told", "_", "found", "pair", "text", "count", "pieces"]) (sc := defScope s_trained_steps) (by decide +kernel)) (fun _ _ _ _ _ => (qg_tup rfl rfl (qgs_cons (qg_name (i := 9) sc_trained_steps.nd rfl (.inl rfl)) (qgs_cons (qg_name (i := 10) sc_trained_steps.nd rfl (.inl rfl)) qgs_nil)))) (fun _ _ _ _ _ => qts_nil) (fun _ _ _ _ _ => (qe_new (qo_t1 (call_listS rfl) s1_listS (by rfl) b_list (by decide +kernel) (qv 9)))) (by decide))
      (qb_cons (qs_setLcS (i := 3) rfl sc_trained_steps.nd rfl rfl (sw_true rfl rfl rfl (by decide +kernel)) (own := [("text", 9), ("count", 10)]) (g := gTup K 2 (gCons (gName 9) (gCons (gName 10) gNil))) (q := gpTup 2 (gpCons (gpN 9) (gpCons (gpN 10) gpNil))) (tt := tYes) (pt := pYes) (qic_of (qi_tup rfl (qv 0))) (blkOk_by (N := ["corpus", "steps", "rows", "counts", "taken", "told", "_", "found", "pair", "text", "count", "pieces"]) (sc := defScope s_trained_steps) (by decide +kernel)) (fun _ _ _ _ _ => (qg_tup rfl rfl (qgs_cons (qg_name (i := 9) sc_trained_steps.nd rfl (.inl rfl)) (qgs_cons (qg_name (i := 10) sc_trained_steps.nd rfl (.inl rfl)) qgs_nil)))) (fun _ _ _ _ _ => qts_nil) (fun _ _ _ _ _ => (qv 10)) (by decide))
      (qb_cons (qs_set (i := 4) sc_trained_steps.nd rfl (.inl rfl) (qm_new qo_dnew))
      (qb_cons (qs_set (i := 5) sc_trained_steps.nd rfl (.inl rfl) (qm_new (qo_lst qa_nil)))
      (qb_cons (qs_for PassesOwn.never rfl (qi_r1 (by rfl) b_range (qa_cons (qv 1) qa_nil)) (qg_name (i := 6) sc_trained_steps.nd rfl (.inl rfl))
      (qb_cons (qs_set (i := 7) sc_trained_steps.nd rfl (.inl rfl) (qm_cK (i := 4) rfl c_pair_counts hr (by decide) (by rfl) (qam_cons (qv 2) (qam_cons (qv 3) (qam_last 4)))))
      (qb_cons (qs_set (i := 8) sc_trained_steps.nd rfl (.inr rfl) (qm_of (qe_new (qo_c rfl c_chosen_pair hr (by decide) (by rfl) (qa_cons (qv 7) qa_nil)))))
      (qb_cons (qs_app (i := 5) rfl (qm_of (qe_tup (qa_cons (qv 8) (qa_cons (qv 7) qa_nil)))) (fun h => pe_bm PySem.F.plainAttrs_list PySem.F.slot_list_append PySem.F.type_list_append mt_append (pv 5) (pa_cons h pa_nil)))
      (qb_cons (qs_if (qt_cmp op_isN2 s2_isN (qv 8) qe_non (nomark _)) (qb_one (qs_ret (qmov 5))) qb_nil)
      (qb_cons (qs_dput (i := 4) (qe_op op_addS s2_addS (qe_ix (r := rIxT K) ix_tup s2_ixT (qv 8) qe_int (fun _ _ => rfl)) (qe_ix (r := rIxT K) ix_tup s2_ixT (qv 8) qe_int (fun _ _ => rfl))) qe_bl (fun h => pg_sub (pv 4) h (set_dict hr.units1)))
      (qb_one (qs_setLcS (i := 2) rfl sc_trained_steps.nd rfl rfl (sw_true rfl rfl rfl (by decide +kernel)) (own := [("pieces", 11)]) (g := gName 11) (q := gpN 11) (ws := [11]) (tt := tYes) (pt := pYes) (qic_list rfl (qvl 2)) (blkOk_by (N := ["corpus", "steps", "rows", "counts", "taken", "told", "_", "found", "pair", "text", "count", "pieces"]) (sc := defScope s_trained_steps) (by decide +kernel)) (fun _ _ _ _ _ => (qg_name (i := 11) sc_trained_steps.nd rfl (.inl rfl))) (fun _ _ _ _ _ => qts_nil) (fun _ _ _ _ _ => (qe_new (qo_c rfl c_joined_once hr (by decide) (by rfl) (qa_cons (qv 11) (qa_cons (qe_ix (r := rIxT K) ix_tup s2_ixT (qv 8) qe_int (fun _ _ => rfl)) (qa_cons (qe_ix (r := rIxT K) ix_tup s2_ixT (qv 8) qe_int (fun _ _ => rfl)) qa_nil)))))) (by decide)))))))))
      (qb_one (qs_ret (qmov 5)))))))), fun ds post h => ?_⟩
  obtain ⟨ls, cs, n, rfl, ok, hn, q⟩ := h
  refine en_is (ρ := [some (.sh (coP cs)), some (.sh (.int (n : Nat))), none, none, none, none, none, none, none, none, none, none]) rfl ?_
  walk_at "u"
  refine u_lcMap (xs := cs) (f := cP) (fun c => lP (chs c.1)) (fun i c R hc h => ?_) ?_
  · have hb := (ok.bd c (List.mem_of_getElem? hc)).1
    walk_at "u"
    rw [chs_str]
    exact h
  walk_at "u"
  refine u_lcMap (xs := cs) (f := cP) (fun c => .int c.2) (fun i c R hc h => ?_) ?_
  · walk_at "u"
    exact h
  walk_at "u"
  have hk0 : ∀ d, kvT [] d = [] := fun _ => rfl
  refine u_forN (n := n) (fun i ρ => ∃ (tk : List Txt) (lz : Ln) (dn : List (Option Pr × Fd)) (y1 y2 y3 : Option Vl), LnOk 40 80 lz ∧ tk.Nodup ∧ tk.length ≤ i ∧ dn.length = i ∧ (run n [] (ln0 cs)).1 = dn ++ (run (n - i) tk lz).1 ∧ ρ = [some (.sh (coP cs)), some (.sh (.int (n : Nat))), some (.sh (.lst (lz.map fun z => lP z.1))), some (.sh (.lst (lz.map fun z => .int z.2))), some (.oK (kvT tk (.bl true))), some (.ol (dn.map stP)), y1, y2, y3, none, none, none]) ⟨[], ln0 cs, [], _, _, _, ok.ln, List.nodup_nil, Nat.le_refl _, rfl, by rw [Nat.sub_zero]; rfl, by unfold ln0; rw [List.map_map, List.map_map]; rfl⟩ ?_ ?_
  · rintro i ρ1 hi ⟨tk, lz, dn, y1, y2, y3, k1, k2, k3, k4, k5, rfl⟩
    obtain ⟨m, hm⟩ : ∃ m, n - i = m + 1 := ⟨n - i - 1, by omega⟩
    have hm2 : n - (i + 1) = m := by omega
    rw [hm] at k5
    rw [hm2]
    obtain ⟨c1, c2⟩ := cnt_ok (tk := tk) k1
    have hdl : (dn.map stP).length = i := by rw [List.length_map]; exact k4
    walk_at "u"
    refine ⟨lz, tk, rfl, rfl, k1, ?_⟩
    walk_at "u"
    refine ⟨_, tk, rfl, c1, c2, ?_⟩
    cases e : bst (cnt tk lz) with
    | none =>
      rw [run_none e] at k5
      rw [show oP none = PV.non from rfl]
      walk_at "u"
      rw [show dn.map stP ++ [PV.tup [.non, dF (cnt tk lz)]] = (run n [] (ln0 cs)).1.map stP by rw [k5, List.map_append]; rfl]
      exact q
    | some p =>
      rw [run_some e] at k5
      rw [show oP (some p) = pP p from rfl]
      have hp := (c1.bd p (bst_mem e)).1
      have hpl := hp.1
      walk_at "u"
      refine u_dpQ (k := kt (p.1 ++ p.2)) rfl (kvT_nd k2) (by rw [List.length_map]; omega) ?_
      rw [put_kvT]
      walk_at "u"
      refine u_lcMap (xs := lz) (f := fun z => lP z.1) (fun z => lP (jn p.1 p.2 z.1)) (fun j z R hz h => ?_) ?_
      · have hb := (k1.bd z (List.mem_of_getElem? hz)).2.1
        walk_at "u"
        refine ⟨p.1, p.2, z.1, rfl, by omega, by omega, ?_⟩
        walk_at "u"
        exact h
      walk_at "u"
      rw [← jnL_one, ← jnL_two p, show dn.map stP ++ [PV.tup [pP p, dF (cnt tk lz)]] = (dn ++ [(some p, cnt tk lz)]).map stP by rw [List.map_append]; rfl]
      exact ⟨_, _, _, _, _, _, k1.jn, addT_nd k2, Nat.le_trans (addT_len _ _) (by omega), by rw [List.length_append]; simp only [List.length_cons, List.length_nil]; omega, by rw [k5, List.append_assoc]; rfl, rfl⟩
  · rintro ρ1 ⟨tk, lz, dn, y1, y2, y3, k1, k2, k3, k4, k5, rfl⟩
    rw [Nat.sub_self, show (run 0 tk lz).1 = [] from rfl, List.append_nil] at k5
    walk_at "u"
    rw [← k5]
    exact q
abbrev s_narrow_step : Stmt := topS 8
theorem sc_narrow_step : FnScope ["margin", "pair", "slopes", "bases", "other", "gap"] ["margin", "pair", "slopes", "bases"] (defScope s_narrow_step) := ⟨rfl, rfl, rfl, by decide +kernel, rfl, by decide +kernel, by decide +kernel⟩
theorem ok_narrow_step {C_Margin : Addr} (T_Margin : ObC K mg "Margin" C_Margin ["least", "greatest"]) (k_Margin_narrow : CalMt P w K PO mg base 1 C_Margin "narrow" sp_narrow) (F : At K mg "narrow_step" s_narrow_step) : CalO P w K PO mg base 2 "narrow_step" C_Margin sp_nstep := by
  refine F.calO 3 sc_narrow_step (fun ds fs post h => ?_) rfl (fun _ _ _ _ _ _ us hl => match us, hl with | [_, _, _, _], _ => rfl) (fun f cdv A outer s H E a dx hr => ?_)
  · obtain ⟨p, sl, ba, s, rfl, _⟩ := h
    rfl
  refine ⟨_, _, (qb_one (qs_forK (i := 2) PassesOwn.never rfl (pv 2) (qg_name (i := 4) sc_narrow_step.nd rfl (.inl rfl))
      (qb_one (qs_if (qt_cmp op_isN2 s2_isN (qv 1) qe_non (nomark _)) (qb_one (qs_exprM (qm_meth (i := 0) rfl T_Margin.cl k_Margin_narrow hr (by decide) (pv 0) (qa_cons (qe_neg (qe_dgetT hr.units1 (qvdT 2) (qv 4) (fun _ _ => rfl))) (qa_cons (qe_neg (qe_dgetT hr.units1 (qvdT 3) (qv 4) (fun _ _ => rfl))) qa_nil)) (fun ho c hM F hr b ha => pe_meth ho c hM F hr b .nil pass0 ha)))) (qb_one (qs_if (qt_cmp (r := rEqD K) (op_eqD hr.units) s2_eqD (qv 4) (qv 1) (nomark _)) (qb_one (qs_exprM (qm_meth (i := 0) rfl T_Margin.cl k_Margin_narrow hr (by decide) (pv 0) (qa_cons (qe_dgetT hr.units1 (qvdT 2) (qv 1) (fun _ _ => rfl)) (qa_cons (qe_op op_sub s2_0 (qe_dgetT hr.units1 (qvdT 3) (qv 1) (fun _ _ => rfl)) qe_int) qa_nil)) (fun ho c hM F hr b ha => pe_meth ho c hM F hr b .nil pass0 ha)))) (qb_cons (qs_set (i := 5) sc_narrow_step.nd rfl (.inl rfl) (qm_of (qe_if (qt_cmp (r := rLtTS K) (op_ltTS (Nat.lt_of_le_of_lt (Nat.le_add_right _ 64) hr.units)) s2_ltTS (qv 4) (qv 1) (nomark _)) qe_int qe_int)))
      (qb_one (qs_exprM (qm_meth (i := 0) rfl T_Margin.cl k_Margin_narrow hr (by decide) (pv 0) (qa_cons (qe_op op_sub s2_0 (qe_dgetT hr.units1 (qvdT 2) (qv 1) (fun _ _ => rfl)) (qe_dgetT hr.units1 (qvdT 2) (qv 4) (fun _ _ => rfl))) (qa_cons (qe_op op_sub s2_0 (qe_op op_sub s2_0 (qe_dgetT hr.units1 (qvdT 3) (qv 1) (fun _ _ => rfl)) (qe_dgetT hr.units1 (qvdT 3) (qv 4) (fun _ _ => rfl))) (qv 5)) qa_nil)) (fun ho c hM F hr b ha => pe_meth ho c hM F hr b .nil pass0 ha))))))))))), fun ds fs post h => ?_⟩
  obtain ⟨p, sl, ba, s, rfl, rfl, ok, q⟩ := h
  obtain ⟨tk, fok⟩ := ok.ok
  have hsm := fok.small (by omega)
  refine en_is (ρ := [some (.ob (.obj a) a dx C_Margin (mF s)), some (.sh (oP p)), some (.sh (dF sl)), some (.sh (dF ba)), none, none]) rfl ?_
  walk_at "u"
  refine u_forKT (xs := sl) (kf := fun z => kk z.1) (vf := fun z => .int z.2) (fun z => [.str z.1.1, .str z.1.2]) (fun z hz => ?_) (fun i ρ => ∃ y1 y2, ρ = [some (.ob (.obj a) a dx C_Margin (mF (((sl.map (·.1)).take i).foldl (dem p sl ba) s))), some (.sh (oP p)), some (.sh (dF sl)), some (.sh (dF ba)), y1, y2]) ⟨_, _, rfl⟩ ?_ ?_
  · refine ⟨rfl, by simp, fun d hd => ?_⟩
    simp only [List.mem_cons, List.not_mem_nil, or_false] at hd
    rcases hd with rfl | rfl
    · exact (hsm z hz).1
    · exact (hsm z hz).2
  · rintro j z ρ1 hz ⟨y1, y2, rfl⟩
    have hq : (sl.map (·.1))[j]? = some z.1 := by rw [List.getElem?_map, hz]; rfl
    have hmem : z.1 ∈ sl.map (·.1) := List.mem_of_getElem? hq
    rw [fold_take hq]
    generalize ((sl.map (·.1)).take j).foldl (dem p sl ba) s = t at *
    obtain ⟨k, hk⟩ := look_some hmem
    obtain ⟨k2, hk2⟩ := look_some (f := ba) (k := z.1) (by rw [ok.same]; exact hmem)
    have l1 : lookD (kvF sl) [Sum.inr (S z.1.1), Sum.inr (S z.1.2)] = some (.int (vG sl z.1)) := by rw [show [Sum.inr (S z.1.1), Sum.inr (S z.1.2)] = kk z.1 from rfl, look_kvF, hk]; unfold vG; rw [hk]; rfl
    have l2 : lookD (kvF ba) [Sum.inr (S z.1.1), Sum.inr (S z.1.2)] = some (.int (vG ba z.1)) := by rw [show [Sum.inr (S z.1.1), Sum.inr (S z.1.2)] = kk z.1 from rfl, look_kvF, hk2]; unfold vG; rw [hk2]; rfl
    have b1 := ok.bd z.1
    have hck : Ck z.1.1 ∧ Ck z.1.2 := by have := (fok.bd z.1 hmem).1; exact this.2
    cases p with
    | none =>
      rw [show oP none = PV.non from rfl]
      walk_at "u"
      refine ⟨_, _, t, rfl, rfl, by omega, ?_⟩
      walk_at "u"
      exact ⟨_, _, rfl⟩
    | some p =>
      have hp := ok.mem p rfl
      have b2 := ok.bd p
      obtain ⟨k3, hk3⟩ := look_some hp
      obtain ⟨k4, hk4⟩ := look_some (f := ba) (k := p) (by rw [ok.same]; exact hp)
      have l3 : lookD (kvF sl) [Sum.inr (S p.1), Sum.inr (S p.2)] = some (.int (vG sl p)) := by rw [show [Sum.inr (S p.1), Sum.inr (S p.2)] = kk p from rfl, look_kvF, hk3]; unfold vG; rw [hk3]; rfl
      have l4 : lookD (kvF ba) [Sum.inr (S p.1), Sum.inr (S p.2)] = some (.int (vG ba p)) := by rw [show [Sum.inr (S p.1), Sum.inr (S p.2)] = kk p from rfl, look_kvF, hk4]; unfold vG; rw [hk4]; rfl
      have hcp : Ck p.1 ∧ Ck p.2 := by have := (fok.bd p hp).1; exact this.2
      rw [show oP (some p) = pP p from rfl]
      walk_at "u"
      refine u_eqPP hck.1 hck.2 hcp.1 hcp.2 ?_
      walk_at "u"
      refine ite2 (fun e => ?_) (fun e => ?_)
      · have e := of_decide_eq_true e
        have e : z.1 = p := Prod.ext e.1 e.2
        walk_at "u"
        refine ⟨_, _, t, rfl, rfl, by omega, ?_⟩
        walk_at "u"
        rw [show dem (some p) sl ba t z.1 = nar t (vG sl p) (vG ba p - 1) by unfold dem; dsimp only; rw [if_pos e]]
        exact ⟨_, _, rfl⟩
      · have e := of_decide_eq_false e
        have e : z.1 ≠ p := fun h => e (by rw [h]; exact ⟨rfl, rfl⟩)
        walk_at "u"
        refine u_ltTS (as := [z.1.1, z.1.2]) (bs := [p.1, p.2]) ?_
        walk_at "u"
        refine ite2 (fun h => ?_) (fun h => ?_)
        · have h : ltb z.1 p = true := h
          walk_at "u"
          refine ⟨_, _, t, rfl, rfl, by omega, ?_⟩
          walk_at "u"
          rw [show dem (some p) sl ba t z.1 = nar t (vG sl p - vG sl z.1) (vG ba p - vG ba z.1 - 1) by unfold dem; dsimp only; rw [if_neg e, if_pos h]]
          exact ⟨_, _, rfl⟩
        · have h : ltb z.1 p = false := h
          walk_at "u"
          refine ⟨_, _, t, rfl, rfl, by omega, ?_⟩
          walk_at "u"
          rw [show dem (some p) sl ba t z.1 = nar t (vG sl p - vG sl z.1) (vG ba p - vG ba z.1 - 0) by unfold dem; dsimp only; rw [if_neg e, if_neg (by rw [h]; simp)]]
          exact ⟨_, _, rfl⟩
  · rintro ρ1 ⟨y1, y2, rfl⟩
    have e : ((sl.map (·.1)).take sl.length) = sl.map (·.1) := List.take_of_length_le (by rw [List.length_map]; exact Nat.le_refl _)
    rw [e]
    exact ⟨_, rfl, q⟩
abbrev s_margin_of : Stmt := topS 9
theorem sc_margin_of : FnScope ["letters", "corpus", "steps", "entry", "rows", "ones", "others", "taken", "margin", "pair", "_", "text", "count", "at", "pieces"] ["letters", "corpus", "steps", "entry"] (defScope s_margin_of) := ⟨rfl, rfl, rfl, by decide +kernel, rfl, by decide +kernel, by decide +kernel⟩
theorem ok_margin_of {C_Margin : Addr} (T_Margin : ObC K mg "Margin" C_Margin ["least", "greatest"]) (k_Margin : CalMk P w K PO mg base 1 C_Margin sp_init) (c_joined_once : CalV P w K PO mg base 1 "joined_once" sp_joined) (c_narrow_step : CalO P w K PO mg base 2 "narrow_step" C_Margin sp_nstep) (c_pair_counts : CalK P w K PO mg base 1 "pair_counts" sp_pair_counts) (c_trained_steps : CalV P w K PO mg base 2 "trained_steps" sp_steps) (b_enumerate : mg "enumerate" = none) (b_len : mg "len" = none) (b_list : mg "list" = none) (b_range : mg "range" = none) (F : At K mg "margin_of" s_margin_of) : CalV P w K PO mg base 3 "margin_of" sp_margin := by
  refine F.calV sc_margin_of (fun ds post h => ?_) (fun _ _ _ _ _ _ us hl => match us, hl with | [_, _, _, _], _ => rfl) (fun f cdv A outer s H E hr => ?_)
  · obtain ⟨l, ls, cs, n, e, rfl, _⟩ := h
    rfl
  refine ⟨_, _, (qb_cons (qs_setLcS (i := 4) rfl sc_margin_of.nd rfl rfl (sw_true rfl rfl rfl (by decide +kernel)) (own := [("text", 11), ("count", 12)]) (g := gTup K 2 (gCons (gName 11) (gCons (gName 12) gNil))) (q := gpTup 2 (gpCons (gpN 11) (gpCons (gpN 12) gpNil))) (tt := tYes) (pt := pYes) (qic_of (qi_tup rfl (qv 1))) (blkOk_by (N := ["letters", "corpus", "steps", "entry", "rows", "ones", "others", "taken", "margin", "pair", "_", "text", "count", "at", "pieces"]) (sc := defScope s_margin_of) (by decide +kernel)) (fun _ _ _ _ _ => (qg_tup rfl rfl (qgs_cons (qg_name (i := 11) sc_margin_of.nd rfl (.inl rfl)) (qgs_cons (qg_name (i := 12) sc_margin_of.nd rfl (.inl rfl)) qgs_nil)))) (fun _ _ _ _ _ => qts_nil) (fun _ _ _ _ _ => (qe_new (qo_t1 (call_listS rfl) s1_listS (by rfl) b_list (by decide +kernel) (qv 11)))) (by decide))
      (qb_cons (qs_setLcS (i := 5) rfl sc_margin_of.nd rfl rfl (sw_true rfl rfl rfl (by decide +kernel)) (own := [("at", 13)]) (g := gName 13) (q := gpN 13) (ws := [13]) (tt := tYes) (pt := pYes) (qic_of (qi_r1 (by rfl) b_range (qa_cons (qe_b1 (r := zLenQ K) call_lenQ s1_len (by rfl) b_len PySem.boot_len (qq_t (qv 1))) qa_nil))) (blkOk_by (N := ["letters", "corpus", "steps", "entry", "rows", "ones", "others", "taken", "margin", "pair", "_", "text", "count", "at", "pieces"]) (sc := defScope s_margin_of) (by decide +kernel)) (fun _ _ _ _ _ => (qg_name (i := 13) sc_margin_of.nd rfl (.inl rfl))) (fun _ _ _ _ _ => qts_nil) (fun _ _ _ _ _ => (qe_if (qt_cmp op_eqI s2_B (qv 13) (qv 3) (nomark _)) qe_int qe_int)) (by decide))
      (qb_cons (qs_setLcS (i := 6) rfl sc_margin_of.nd rfl rfl (sw_true rfl rfl rfl (by decide +kernel)) (own := [("at", 13), ("pair", 9)]) (g := gTup K 2 (gCons (gName 13) (gCons (gName 9) gNil))) (q := gpTup 2 (gpCons (gpN 13) (gpCons (gpN 9) gpNil))) (tt := tYes) (pt := pYes) (qic_of (qi_enumT rfl (by rfl) b_enumerate (qv 1))) (blkOk_by (N := ["letters", "corpus", "steps", "entry", "rows", "ones", "others", "taken", "margin", "pair", "_", "text", "count", "at", "pieces"]) (sc := defScope s_margin_of) (by decide +kernel)) (fun _ _ _ _ _ => (qg_tup rfl rfl (qgs_cons (qg_name (i := 13) sc_margin_of.nd rfl (.inl rfl)) (qgs_cons (qg_name (i := 9) sc_margin_of.nd rfl (.inl rfl)) qgs_nil)))) (fun _ _ _ _ _ => qts_nil) (fun _ _ _ _ _ => (qe_if (qt_cmp op_eqI s2_B (qv 13) (qv 3) (nomark _)) qe_int (qe_ix (r := rIxT K) ix_tup s2_ixT (qv 9) qe_int (fun _ _ => rfl)))) (by decide))
      (qb_cons (qs_set (i := 7) sc_margin_of.nd rfl (.inl rfl) (qm_new qo_dnew))
      (qb_cons (qs_set (i := 8) sc_margin_of.nd rfl (.inl rfl) (qm_new (qo_make rfl k_Margin hr (by decide) (by rfl) T_Margin.gC)))
      (qb_cons (qs_for PassesOwn.never rfl (qi_list rfl (qe_new (qo_c rfl c_trained_steps hr (by decide) (by rfl) (qa_cons (qv 1) (qa_cons (qv 2) qa_nil))))) (qg_tup rfl rfl (qgs_cons (qg_name (i := 9) sc_margin_of.nd rfl (.inr rfl)) (qgs_cons (qg_name (i := 10) sc_margin_of.nd rfl (.inl rfl)) qgs_nil)))
      (qb_cons (qs_exprM (qm_cOX (i := 8) rfl c_narrow_step hr (by decide) (by rfl) (pv 8) (qax_cons (qv 9) (qax_consM (qm_cK (i := 7) rfl c_pair_counts hr (by decide) (by rfl) (qam_cons (qv 4) (qam_cons (qv 5) (qam_last 7)))) (qax_consM (qm_cK (i := 7) rfl c_pair_counts hr (by decide) (by rfl) (qam_cons (qv 4) (qam_cons (qv 6) (qam_last 7)))) qax_nil)))))
      (qb_one (qs_if (qt_cmp op_notN2 s2_notN (qv 9) qe_non (nomark _)) (qb_cons (qs_dput (i := 7) (qe_op op_addS s2_addS (qe_ix (r := rIxT K) ix_tup s2_ixT (qv 9) qe_int (fun _ _ => rfl)) (qe_ix (r := rIxT K) ix_tup s2_ixT (qv 9) qe_int (fun _ _ => rfl))) qe_bl (fun h => pg_sub (pv 7) h (set_dict hr.units1)))
      (qb_one (qs_setLcS (i := 4) rfl sc_margin_of.nd rfl rfl (sw_true rfl rfl rfl (by decide +kernel)) (own := [("pieces", 14)]) (g := gName 14) (q := gpN 14) (ws := [14]) (tt := tYes) (pt := pYes) (qic_list rfl (qvl 4)) (blkOk_by (N := ["letters", "corpus", "steps", "entry", "rows", "ones", "others", "taken", "margin", "pair", "_", "text", "count", "at", "pieces"]) (sc := defScope s_margin_of) (by decide +kernel)) (fun _ _ _ _ _ => (qg_name (i := 14) sc_margin_of.nd rfl (.inl rfl))) (fun _ _ _ _ _ => qts_nil) (fun _ _ _ _ _ => (qe_new (qo_c rfl c_joined_once hr (by decide) (by rfl) (qa_cons (qv 14) (qa_cons (qe_ix (r := rIxT K) ix_tup s2_ixT (qv 9) qe_int (fun _ _ => rfl)) (qa_cons (qe_ix (r := rIxT K) ix_tup s2_ixT (qv 9) qe_int (fun _ _ => rfl)) qa_nil)))))) (by decide)))) qb_nil))))
      (qb_one (qs_ret (qm_of (qe_tup (qa_cons (qx_fld (i := 8) rfl T_Margin.cl (T_Margin.no _ (by simp)) (pv 8)) (qa_cons (qx_fld (i := 8) rfl T_Margin.cl (T_Margin.no _ (by simp)) (pv 8)) qa_nil)))))))))))), fun ds post h => ?_⟩
  obtain ⟨l, ls, cs, n, e, rfl, ok, hn, q⟩ := h
  refine en_is (ρ := [some (.sh (.str l)), some (.sh (coP cs)), some (.sh (.int (n : Nat))), some (.sh (.int (e : Nat))), none, none, none, none, none, none, none, none, none, none, none]) rfl ?_
  walk_at "u"
  have few := ok.few
  have hcl : (cs.map cP).length = cs.length := List.length_map _
  refine u_lcMap (xs := cs) (f := cP) (fun c => lP (chs c.1)) (fun i c R hc h => ?_) ?_
  · have hb := (ok.bd c (List.mem_of_getElem? hc)).1
    walk_at "u"
    rw [chs_str]
    exact h
  walk_at "u"
  rw [hcl]
  refine u_lcR (n := cs.length) (fun k => .int (if k = e then 1 else 0)) (fun i R hi h => ?_) ?_
  · walk_at "u"
    refine ite2 (fun z => ?_) (fun z => ?_)
    · have z := of_decide_eq_true z
      walk_at "u"
      rw [if_pos (by omega)] at h
      exact h
    · have z := of_decide_eq_false z
      walk_at "u"
      rw [if_neg (by omega)] at h
      exact h
  walk_at "u"
  refine u_lcE (xs := cs) (f := cP) (fun k c => .int (if k = e then 0 else c.2)) (fun i c R hc h => ?_) ?_
  · walk_at "u"
    refine ite2 (fun z => ?_) (fun z => ?_)
    · have z := of_decide_eq_true z
      walk_at "u"
      rw [if_pos (by omega)] at h
      exact h
    · have z := of_decide_eq_false z
      walk_at "u"
      rw [if_neg (by omega)] at h
      exact h
  walk_at "u"
  refine ⟨rfl, rfl, rfl, fun a dx => ?_⟩
  walk_at "u"
  refine ⟨ls, cs, n, rfl, ok, hn, ?_⟩
  walk_at "u"
  refine u_forT (xs := (run n [] (ln0 cs)).1) (f := stP) (fun i ρ => ∃ (rs : List Pr) (tk : List Txt) (lz : Ln) (s : Mg) (m : Nat) (y1 y2 : Option Vl), Trn cs rs tk lz ∧ LnOk 40 80 lz ∧ tk.Nodup ∧ tk.length ≤ i ∧ (run n [] (ln0 cs)).1.drop i = (run m tk lz).1 ∧ mgP e m tk lz s = mgP e n [] (ln0 cs) (0, none) ∧
    ρ = [some (.sh (.str l)), some (.sh (coP cs)), some (.sh (.int (n : Nat))), some (.sh (.int (e : Nat))), some (.sh (.lst (lz.map fun z => lP z.1))), some (.sh (.lst ((List.range cs.length).map fun k => PV.int (if k = e then 1 else 0)))), some (.sh (.lst (cs.mapIdx fun k c => PV.int (if k = e then 0 else c.2)))), some (.oK (kvT tk (.bl true))), some (.ob (.obj a) a dx C_Margin (mF s)), y1, y2, none, none, none, none])
    ⟨[], [], ln0 cs, (0, none), n, _, _, Trn.start cs, ok.ln, List.nodup_nil, Nat.le_refl _, by rw [List.drop_zero], rfl, by unfold ln0; rw [List.map_map]; rfl⟩ ?_ ?_
  · rintro i z ρ1 hz ⟨rs, tk, lz, s, m, y1, y2, T, k1, k2, k3, k4, k5, rfl⟩
    have hrl := (run_shape n [] (ln0 cs)).1
    have hil : i < 17 := by
      have h1 := (List.getElem?_eq_some_iff.mp hz).1
      have h2 := congrArg List.length (run_shape n [] (ln0 cs)).2
      rw [List.length_map, List.length_append, List.length_map] at h2
      split at h2 <;> simp at h2 <;> omega
    obtain ⟨m, rfl⟩ : ∃ m', m = m' + 1 := by
      cases m with
      | zero =>
        have h1 := (List.getElem?_eq_some_iff.mp hz).1
        have h2 := congrArg List.length k4
        rw [List.length_drop, show (run 0 tk lz).1 = [] from rfl, List.length_nil] at h2
        omega
      | succ m => exact ⟨m, rfl⟩
    have hd : (run n [] (ln0 cs)).1.drop i = z :: (run n [] (ln0 cs)).1.drop (i + 1) := by
      rw [List.drop_eq_getElem_cons (List.getElem?_eq_some_iff.mp hz).1, (List.getElem?_eq_some_iff.mp hz).2]
    rw [hd] at k4
    have hlen := T.len
    have hcn := T.cnts
    have o1 : LnOk 40 80 (lw1 e lz) := lw_ok k1 (by rw [List.length_mapIdx]) lw1_mem
    have o0 : LnOk 40 80 (lw0 e lz) := lw_ok k1 (by rw [List.length_mapIdx]) lw0_mem
    walk_at "u"
    refine ⟨lw1 e lz, tk, by rw [lw1_rows, lw1_ints, hlen], rfl, o1, ?_⟩
    walk_at "u"
    refine ⟨lw0 e lz, tk, by rw [lw0_rows, lw0_ints hcn], rfl, o0, ?_⟩
    walk_at "u"
    cases hb : bst (cnt tk lz) with
    | none =>
      rw [run_none hb] at k4
      obtain ⟨hz1, hz2⟩ := List.cons.inj k4
      subst hz1
      refine ⟨none, _, _, s, rfl, rfl, sl_ok T k1 hb, ?_⟩
      walk_at "u"
      rw [show oP (none : Option Pr) = PV.non from rfl]
      walk_at "u"
      rw [mgP_none hb] at k5
      exact ⟨rs, tk, lz, _, 0, _, _, T, k1, k2, by omega, hz2, k5, rfl⟩
    | some p =>
      rw [run_some hb] at k4
      obtain ⟨hz1, hz2⟩ := List.cons.inj k4
      subst hz1
      obtain ⟨c1, c2⟩ := cnt_ok (tk := tk) k1
      have hp := (c1.bd p (bst_mem hb)).1
      have hpl := hp.1
      refine ⟨some p, _, _, s, rfl, rfl, sl_ok T k1 hb, ?_⟩
      walk_at "u"
      rw [show oP (some p) = pP p from rfl]
      walk_at "u"
      refine u_dpQ (k := kt (p.1 ++ p.2)) rfl (kvT_nd k2) (by rw [List.length_map]; omega) ?_
      rw [put_kvT]
      walk_at "u"
      refine u_lcMap (xs := lz) (f := fun z => lP z.1) (fun z => lP (jn p.1 p.2 z.1)) (fun j z R hz h => ?_) ?_
      · have hbz := (k1.bd z (List.mem_of_getElem? hz)).2.1
        walk_at "u"
        refine ⟨p.1, p.2, z.1, rfl, by omega, by omega, ?_⟩
        walk_at "u"
        exact h
      walk_at "u"
      rw [← jnL_one]
      rw [mgP_some hb] at k5
      have := addT_len tk (p.1 ++ p.2)
      exact ⟨_, _, _, _, m, _, _, T.next hb, k1.jn, addT_nd k2, by omega, hz2, k5, rfl⟩
  · rintro ρ1 ⟨rs, tk, lz, s, m, y1, y2, T, k1, k2, k3, k4, k5, rfl⟩
    have hs : s = mgP e n [] (ln0 cs) (0, none) := by
      rw [← k5]
      rw [List.drop_length] at k4
      cases m with
      | zero => rfl
      | succ m =>
        cases hb : bst (cnt tk lz) with
        | none => rw [run_none hb] at k4; cases k4
        | some p => rw [run_some hb] at k4; cases k4
    walk_at "u"
    rw [hs]
    exact q
abbrev s__law_pluck : Stmt := topS 12
theorem sc__law_pluck : FnScope ["state", "many", "told"] ["state", "many"] (defScope s__law_pluck) := ⟨rfl, rfl, rfl, by decide +kernel, rfl, by decide +kernel, by decide +kernel⟩
theorem ok__law_pluck (b_int : mg "int" = none) (F : At K mg "_law_pluck" s__law_pluck) : CalF P w K noPool mg base 1 "_law_pluck" sp_pourF := by
  refine F.calF 1 sc__law_pluck (fun ds es post h => ?_) rfl (fun _ _ _ _ _ _ us hl => match us, hl with | [_, _], _ => rfl) (fun f cdv A outer s H E ad hr => ?_)
  · obtain ⟨m, xs, rfl, rfl, _⟩ := h
    rfl
  refine ⟨_, _, (qb_cons (qs_if (qt_cmp op_gt s2_B (qe_ix (r := rIxL K) ix_list s2_ixL (qvl 0) qe_int (fun _ _ => rfl)) qe_int (nomark _)) (qb_cons (qs_set (i := 2) sc__law_pluck.nd rfl (.inl rfl) (qm_of (qe_op op_mod s2_I (qe_t1 call_intI s1_int (by rfl) b_int (by decide +kernel) (qe_ix (r := rIxL K) ix_list s2_ixL (qvl 0) qe_int (fun _ _ => rfl))) (qv 1))))
      (qb_cons (qs_stoA (i := 0) qe_int (qe_op op_fdiv s2_I (qe_ix (r := rIxL K) ix_list s2_ixL (qvl 0) qe_int (fun _ _ => rfl)) (qv 1)) (fun h => pg_sub (pv 0) h set_list))
      (qb_one (qs_retA 0 (qm_of (qv 2)))))) qb_nil)
      (qb_cons (qs_stoA (i := 0) qe_int (qe_op op_mod s2_I (qe_t1 call_intI s1_int (by rfl) b_int (by decide +kernel) (qe_op op_add s2_0 (qe_op op_mul s2_I (qe_ix (r := rIxL K) ix_list s2_ixL (qvl 0) qe_int (fun _ _ => rfl)) qe_int) qe_int)) qe_int) (fun h => pg_sub (pv 0) h set_list))
      (qb_one (qs_retA 0 (qm_of (qe_op op_mod s2_I (qe_t1 call_intI s1_int (by rfl) b_int (by decide +kernel) (qe_op op_fdiv s2_I (qe_ix (r := rIxL K) ix_list s2_ixL (qvl 0) qe_int (fun _ _ => rfl)) qe_int)) (qv 1))))))), fun ds es post h => ?_⟩
  obtain ⟨m, xs, rfl, rfl, hl, hm, q⟩ := h
  refine en_is (ρ := [some (.«at» (.obj ad) ad (xs.map .int)), some (.sh (.int m)), none]) rfl ?_
  walk_at "u"
  obtain ⟨x0, x1, r, rfl⟩ : ∃ x0 x1 r, xs = x0 :: x1 :: r := by
    match xs, hl with
    | x0 :: x1 :: r, _ => exact ⟨x0, x1, r, rfl⟩
  have fin : ∀ (y z0 z1 : Int), ∃ d es', Vl.«at» (.int (y % m)) ad ((z0 :: z1 :: r).map .int) = .«at» d ad es' ∧ post d es' := fun y z0 z1 => by
    obtain ⟨v, hv⟩ := Int.eq_ofNat_of_zero_le (Int.emod_nonneg y (show m ≠ 0 by omega))
    have := Int.emod_lt_of_pos y hm.1
    rw [hv] at this ⊢
    exact ⟨_, _, rfl, q v (z0 :: z1 :: r) this rfl⟩
  walk_at "u"
  refine ite2 (fun e => ?_) (fun e => ?_)
  · walk_at "u"
    refine u_stoMQ (j := 1) (ixN_n (by simp)) ?_
    walk_at "u"
    exact fin _ _ _
  · walk_at "u"
    refine u_stoMQ (j := 0) (ixN_n (by simp)) ?_
    walk_at "u"
    exact fin _ _ _
abbrev s__law_trend : Stmt := topS 13
theorem sc__law_trend : FnScope ["state", "place", "many", "habit"] ["state", "place", "many"] (defScope s__law_trend) := ⟨rfl, rfl, rfl, by decide +kernel, rfl, by decide +kernel, by decide +kernel⟩
theorem ok__law_trend (cF__law_pluck : CalF P w K noPool mg base 1 "_law_pluck" sp_pourF) (b_int : mg "int" = none) (F : At K mg "_law_trend" s__law_trend) : CalF P w K noPool mg base 2 "_law_trend" sp_biasF := by
  refine F.calF 2 sc__law_trend (fun ds es post h => ?_) rfl (fun _ _ _ _ _ _ us hl => match us, hl with | [_, _, _], _ => rfl) (fun f cdv A outer s H E ad hr => ?_)
  · obtain ⟨k, m, xs, rfl, rfl, _⟩ := h
    rfl
  refine ⟨_, _, (qb_cons (qs_set (i := 3) sc__law_trend.nd rfl (.inl rfl) (qm_of (qe_ix (r := rIxL K) ix_list s2_ixL (qvl 0) (qe_op op_add s2_0 qe_int (qv 1)) (fun _ _ => rfl))))
      (qb_cons (qs_if (qt_cmp op_eqI s2_B (qv 3) qe_int (nomark _)) (qb_one (qs_retA 0 (qm_of qe_int))) qb_nil)
      (qb_cons (qs_if (qt_cmp op_eqI s2_B (qv 3) qe_int (nomark _)) (qb_one (qs_retA 0 (qm_of (qe_op op_sub s2_0 (qv 2) qe_int)))) qb_nil)
      (qb_cons (qs_if (qt_cmp op_eqI s2_B (qv 3) qe_int (nomark _)) (qb_one (qs_retA 0 (qm_of (qe_op op_mod s2_I (qe_t1 call_intI s1_int (by rfl) b_int (by decide +kernel) (qe_op op_add s2_0 qe_int (qv 1))) (qv 2))))) qb_nil)
      (qb_one (qs_retA 0 (qm_cFA (i := 0) rfl cF__law_pluck hr (by decide) (by rfl) (qaf_first 0 (qa_cons (qv 2) qa_nil))))))))), fun ds es post h => ?_⟩
  obtain ⟨k, m, xs, rfl, rfl, hl, hm, q⟩ := h
  refine en_is (ρ := [some (.«at» (.obj ad) ad (xs.map .int)), some (.sh (.int (k : Nat))), some (.sh (.int m)), none]) rfl ?_
  walk_at "u"
  obtain ⟨h, hh⟩ : ∃ h, xs[k + 2]? = some h := ⟨_, List.getElem?_eq_getElem (by omega)⟩
  refine u_ix (d := .int h) (by rw [show (2 : Int) + (k : Int) = ((k + 2 : Nat) : Int) by omega]; exact atI_nat (by rw [List.getElem?_map, hh]; rfl)) ?_
  walk_at "u"
  refine ite2 (fun e => ?_) (fun e => ?_)
  · walk_at "u"
    exact ⟨_, _, rfl, q 0 xs (by omega) rfl⟩
  walk_at "u"
  refine ite2 (fun e => ?_) (fun e => ?_)
  · obtain ⟨v, hv⟩ := Int.eq_ofNat_of_zero_le (show 0 ≤ m - 1 by omega)
    walk_at "u"
    rw [hv]
    exact ⟨_, _, rfl, q v xs (by omega) rfl⟩
  walk_at "u"
  refine ite2 (fun e => ?_) (fun e => ?_)
  · walk_at "u"
    obtain ⟨v, hv⟩ := Int.eq_ofNat_of_zero_le (Int.emod_nonneg (2 + (k : Int)) (show m ≠ 0 by omega))
    have := Int.emod_lt_of_pos (2 + (k : Int)) hm.1
    rw [hv] at this ⊢
    exact ⟨_, _, rfl, q v xs this rfl⟩
  walk_at "u"
  refine ⟨m, xs, rfl, rfl, by omega, hm, fun v xs' hv hx => ?_⟩
  walk_at "u"
  exact ⟨_, _, rfl, q v xs' hv hx⟩
abbrev s__law_field : Stmt := topS 11
theorem sc__law_field : FnScope ["script", "sack", "great", "cell", "number", "state", "place"] ["script"] (defScope s__law_field) := ⟨rfl, rfl, rfl, by decide +kernel, rfl, by decide +kernel, by decide +kernel⟩
theorem ok__law_field (cF__law_pluck : CalF P w K noPool mg base 1 "_law_pluck" sp_pourF) (b_int : mg "int" = none) (b_range : mg "range" = none) (F : At K mg "_law_field" s__law_field) : CalV P w K noPool mg base 2 "_law_field" sp_law_pool4 := by
  refine F.calV sc__law_field (fun ds post h => ?_) (fun _ _ _ _ _ _ us hl => match us, hl with | [_], _ => rfl) (fun f cdv A outer s H E hr => ?_)
  · obtain ⟨ns, rfl, _⟩ := h
    rfl
  refine ⟨_, _, (qb_cons (qs_set (i := 1) sc__law_field.nd rfl (.inl rfl) (qm_of qe_int))
      (qb_cons (qs_set (i := 2) sc__law_field.nd rfl (.inl rfl) (qm_of qe_int))
      (qb_cons (qs_for PassesOwn.never rfl (qi_scr rfl (qv 0)) (qg_name (i := 3) sc__law_field.nd rfl (.inl rfl))
      (qb_cons (qs_set (i := 4) sc__law_field.nd rfl (.inl rfl) (qm_of (qe_t1 call_intI s1_int (by rfl) b_int (by decide +kernel) (qv 3))))
      (qb_cons (qs_if (qt_cmp op_lt s2_B (qv 4) qe_int (nomark _)) (qb_one (qs_set (i := 4) sc__law_field.nd rfl (.inl rfl) (qm_of (qe_op op_sub s2_0 qe_int (qe_op op_mul s2_I qe_int (qv 4)))))) qb_nil)
      (qb_cons (qs_if (qw (qw_and (qt_cmp op_eqI s2_B (qv 2) qe_int (nomark _)) (qw_and1 (qt_cmp op_ge s2_B (qv 4) (qe_op op_pow s2_I qe_int qe_int) (nomark _))))) (qb_one (qs_set (i := 2) sc__law_field.nd rfl (.inl rfl) (qm_of (qv 4)))) qb_nil)
      (qb_one (qs_set (i := 1) sc__law_field.nd rfl (.inl rfl) (qm_of (qe_op op_mod s2_I (qe_t1 call_intI s1_int (by rfl) b_int (by decide +kernel) (qe_op op_add s2_0 (qe_op op_add s2_0 (qe_op op_mul s2_I (qv 1) qe_int) (qe_op op_mul s2_I (qv 4) qe_int)) qe_int)) qe_int))))))))
      (qb_cons (qs_set (i := 5) sc__law_field.nd rfl (.inl rfl) (qm_new (qo_lst (qa_cons (qv 1) (qa_cons (qv 2) qa_nil)))))
      (qb_cons (qs_for PassesOwn.never rfl (qi_r1 (by rfl) b_range (qa_cons qe_int qa_nil)) (qg_name (i := 6) sc__law_field.nd rfl (.inl rfl))
      (qb_one (qs_app (i := 5) rfl (qm_cF (i := 5) rfl cF__law_pluck hr (by decide) (by rfl) (qaf_first 5 (qa_cons qe_int qa_nil))) (fun h => pe_bm PySem.F.plainAttrs_list PySem.F.slot_list_append PySem.F.type_list_append mt_append (pv 5) (pa_cons h pa_nil)))))
      (qb_one (qs_ret (qmov 5)))))))), fun ds post h => ?_⟩
  obtain ⟨ns, rfl, hz, q⟩ := h
  refine en_is (ρ := [some (.sh (.scr ns)), none, none, none, none, none, none]) rfl ?_
  walk_at "u"
  refine u_forT (xs := ns) (f := .int) (fun i ρ => ∃ (x g : Int) (y z : Option Vl), ρ = [some (.sh (.scr ns)), some (.sh (.int x)), some (.sh (.int g)), y, z, none, none]) ⟨_, _, _, _, rfl⟩ ?_ ?_
  · rintro i c ρ1 hc ⟨x, g, y, z, rfl⟩
    walk_at "u"
    refine ite2 (fun _ => ?_) (fun _ => ?_) <;> (walk_at "u"; refine ite2 (fun _ => ?_) (fun _ => ?_) <;> (walk_at "u"; first | exact ⟨_, _, _, _, rfl⟩ | (refine ite2 (fun _ => ?_) (fun _ => ?_) <;> (walk_at "u"; exact ⟨_, _, _, _, rfl⟩))))
  · rintro ρ1 ⟨x, g, y, z, rfl⟩
    walk_at "u"
    refine u_forN (n := 5) (fun i ρ => ∃ (xs : List Int) (y1 : Option Vl), xs.length = i + 2 ∧ ρ = [some (.sh (.scr ns)), some (.sh (.int x)), some (.sh (.int g)), y, z, some (.ol (xs.map .int)), y1]) ⟨[x, g], _, rfl, rfl⟩ ?_ ?_
    · rintro i ρ1 hi ⟨xs, y1, hx, rfl⟩
      have hxl : (xs.map PV.int).length = xs.length := List.length_map _
      walk_at "u"
      refine ⟨10, xs, rfl, rfl, by omega, by omega, fun v xs' hv hx' => ?_⟩
      have hxl' : (xs'.map PV.int).length = xs'.length := List.length_map _
      walk_at "u"
      rw [show xs'.map PV.int ++ [PV.int (v : Nat)] = (xs' ++ [((v : Nat) : Int)]).map PV.int by rw [List.map_append]; rfl]
      exact ⟨_, _, by rw [List.length_append]; simp only [List.length_cons, List.length_nil]; omega, rfl⟩
    · rintro ρ1 ⟨xs, y1, hx, rfl⟩
      walk_at "u"
      exact q _ ⟨xs, rfl, by omega⟩
abbrev s__law_letters : Stmt := topS 14
theorem sc__law_letters : FnScope ["state", "many", "pool", "begin", "step", "k"] ["state", "many"] (defScope s__law_letters) := ⟨rfl, rfl, rfl, by decide +kernel, rfl, by decide +kernel, by decide +kernel⟩
theorem ok__law_letters (c__law_pluck : CalV P w K (POG 7) mg base 1 "_law_pluck" sp_draw) (b_int : mg "int" = none) (b_range : mg "range" = none) (b_sorted : mg "sorted" = none) (F : At K mg "_law_letters" s__law_letters) : CalV P w K (POG 7) mg base 2 "_law_letters" sp_letters := by
  refine F.calV sc__law_letters (fun ds post h => ?_) (fun _ _ _ _ _ _ us hl => match us, hl with | [_, _], _ => rfl) (fun f cdv A outer s H E hr => ?_)
  · obtain ⟨m, rfl, _⟩ := h
    rfl
  refine ⟨_, _, (qb_cons (qs_set (i := 2) sc__law_letters.nd rfl (.inr rfl) (qm_of (qe_str al52 (by decide +kernel) (by decide))))
      (qb_cons (qs_set (i := 3) sc__law_letters.nd rfl (.inr rfl) (qm_of (qe_new (qo_c rfl c__law_pluck hr (by decide) (by rfl) (qa_cons (qv 0) (qa_cons qe_int qa_nil))))))
      (qb_cons (qs_set (i := 4) sc__law_letters.nd rfl (.inr rfl) (qm_of (qe_ix (r := rIxL K) ix_list s2_ixL (ql_new (qo_lst (qa_cons qe_int (qa_cons qe_int (qa_cons qe_int (qa_cons qe_int (qa_cons qe_int qa_nil))))))) (qe_new (qo_c rfl c__law_pluck hr (by decide) (by rfl) (qa_cons (qv 0) (qa_cons qe_int qa_nil)))) (fun _ _ => rfl))))
      (qb_one (qs_ret (qm_of (qe_m1 (r := zJoin0 K) PySem.F.slot_str_join PySem.F.type_str_join mt_join0 sm_join0 (qe_str [] (by decide +kernel) (by decide)) (qq_l (ql_new (qo_b1 (r := zSortedS K) cr_sortedT s1_sortS (by rfl) b_sorted (by decide +kernel) (ql_new (qo_lc rfl sc__law_letters.nd (own := [("k", 5)]) (g := gName 5) (q := gpN 5) (ws := [5]) (tt := tYes) (pt := pYes) (qic_of (qi_r1 (by rfl) b_range (qa_cons (qv 1) qa_nil))) (blkOk_by (N := ["state", "many", "pool", "begin", "step", "k"]) (sc := defScope s__law_letters) (by decide +kernel)) (fun _ _ _ _ _ => (qg_name (i := 5) sc__law_letters.nd rfl (.inl rfl))) (fun _ _ _ _ _ => qts_nil) (fun _ _ _ _ _ => (qe_ix ix_S s2_ixS (qv 2) (qe_op op_mod s2_I (qe_t1 call_intI s1_int (by rfl) b_int (by decide +kernel) (qe_op op_add s2_0 (qv 3) (qe_op op_mul s2_I (qv 5) (qv 4)))) qe_int) (fun _ _ => rfl))) (by decide))))))))))))), fun ds post h => ?_⟩
  obtain ⟨m, rfl, h1, h2, q⟩ := h
  refine en_is (ρ := [some (.sh (.pool)), some (.sh (.int (m : Nat))), none, none, none, none]) rfl ?_
  walk_at "u"
  refine u_draw (by omega) fun v0 hv0 => ?_
  walk_at "u"
  refine u_draw (by omega) fun v1 hv1 => ?_
  obtain ⟨st, hst, hsm⟩ : ∃ st : Nat, atI [PV.int 1, .int 17, .int 3, .int 9, .int 25] (v1 : Int) = some (.int (st : Nat)) ∧ st ∈ [1, 17, 3, 9, 25] := by
    have : v1 = 0 ∨ v1 = 1 ∨ v1 = 2 ∨ v1 = 3 ∨ v1 = 4 := by omega
    rcases this with rfl | rfl | rfl | rfl | rfl
    · exact ⟨1, rfl, by decide⟩
    · exact ⟨17, rfl, by decide⟩
    · exact ⟨3, rfl, by decide⟩
    · exact ⟨9, rfl, by decide⟩
    · exact ⟨25, rfl, by decide⟩
  walk_at "u"
  refine u_ix hst ?_
  walk_at "u"
  rw [show rngV 0 ((m : Nat) : Int).toNat = (List.range m).map fun k => PV.int ((k : Nat) : Int) by unfold rngV; rw [Int.toNat_natCast]; exact List.map_congr_left fun k _ => by rw [Int.zero_add]]
  refine u_lcMap (xs := List.range m) (f := fun k => .int (k : Nat)) (fun k => .str [al52.getD ((v0 + k * st) % 52) 0]) (fun i k R hk h => ?_) ?_
  · walk_at "u"
    refine u_fI (.inl ⟨by omega, by have := List.mem_range.mp (List.mem_of_getElem? hk); omega⟩) ?_
    walk_at "u"
    refine u_ixS (lst6_at v0 st k) ?_
    exact h
  rw [show (List.range m).map (fun k => PV.str [al52.getD ((v0 + k * st) % 52) 0]) = chrs (lst6 v0 st m) by unfold chrs; rw [List.map_map]; rfl]
  walk_at "u"
  have hll : (lst6 v0 st m).length = m := by rw [List.length_map, List.length_range]
  have hnd := lst6_nd' (v := v0) (by omega) hsm h2
  have hmem := lst6_mem (v := v0) (st := st) (m := m)
  generalize lst6 v0 st m = w6 at *
  refine sort_chrsO (by omega) fun u hu hpw => ?_
  walk_at "u"
  have hul := hu.length_eq
  refine join_chrs (by omega) ?_
  walk_at "u"
  exact q u ⟨by omega, fun a ha => hmem a (hu.mem_iff.mp ha), (hpw.and (List.nodup_iff_pairwise_ne.mp (hu.nodup_iff.mpr hnd))).imp fun h => by omega⟩ (by omega)
abbrev s__law_count : Stmt := topS 15
theorem sc__law_count : FnScope ["state", "kind"] ["state"] (defScope s__law_count) := ⟨rfl, rfl, rfl, by decide +kernel, rfl, by decide +kernel, by decide +kernel⟩
theorem ok__law_count (c__law_pluck : CalV P w K (POG 7) mg base 1 "_law_pluck" sp_draw) (c__law_trend : CalV P w K (POG 7) mg base 2 "_law_trend" sp_bias) (F : At K mg "_law_count" s__law_count) : CalV P w K (POG 7) mg base 3 "_law_count" sp_count := by
  refine F.calV sc__law_count (fun ds post h => ?_) (fun _ _ _ _ _ _ us hl => match us, hl with | [_], _ => rfl) (fun f cdv A outer s H E hr => ?_)
  · obtain ⟨rfl, _⟩ := h
    rfl
  refine ⟨_, _, (qb_cons (qs_set (i := 1) sc__law_count.nd rfl (.inl rfl) (qm_of (qe_new (qo_c rfl c__law_trend hr (by decide) (by rfl) (qa_cons (qv 0) (qa_cons qe_int (qa_cons qe_int qa_nil)))))))
      (qb_cons (qs_if (qt_cmp op_eqI s2_B (qv 1) qe_int (nomark _)) (qb_one (qs_ret (qm_of qe_int))) qb_nil)
      (qb_cons (qs_if (qt_cmp op_eqI s2_B (qv 1) qe_int (nomark _)) (qb_one (qs_ret (qm_of (qe_op op_sub s2_0 (qe_op op_pow s2_I qe_int qe_int) (qe_new (qo_c rfl c__law_pluck hr (by decide) (by rfl) (qa_cons (qv 0) (qa_cons qe_int qa_nil)))))))) qb_nil)
      (qb_one (qs_ret (qm_of (qe_op op_add s2_0 qe_int (qe_new (qo_c rfl c__law_pluck hr (by decide) (by rfl) (qa_cons (qv 0) (qa_cons (qe_op op_mul s2_I qe_int (qv 1)) qa_nil))))))))))), fun ds post h => ?_⟩
  obtain ⟨rfl, q⟩ := h
  refine en_is (ρ := [some (.sh (.pool)), none]) rfl ?_
  walk_at "u"
  refine u_bias (k := 0) (by omega) (by omega) fun v hv => ?_
  walk_at "u"
  refine ite2 (fun _ => ?_) (fun e1 => ?_)
  · walk_at "u"
    exact q _
  have e1 := of_decide_eq_false e1
  walk_at "u"
  refine ite2 (fun _ => ?_) (fun _ => ?_)
  · walk_at "u"
    refine u_draw (by omega) fun v2 _ => ?_
    walk_at "u"
    exact q _
  walk_at "u"
  refine u_draw (by omega) fun v2 _ => ?_
  walk_at "u"
  exact q _
abbrev s__law_corpus : Stmt := topS 16
theorem sc__law_corpus : FnScope ["state", "letters", "texts", "k", "size", "piece", "place", "text"] ["state", "letters"] (defScope s__law_corpus) := ⟨rfl, rfl, rfl, by decide +kernel, rfl, by decide +kernel, by decide +kernel⟩
theorem ok__law_corpus (c__law_count : CalV P w K (POG 7) mg base 3 "_law_count" sp_count) (c__law_pluck : CalV P w K (POG 7) mg base 1 "_law_pluck" sp_draw) (c__law_trend : CalV P w K (POG 7) mg base 2 "_law_trend" sp_bias) (b_len : mg "len" = none) (b_range : mg "range" = none) (b_set : mg "set" = none) (b_sorted : mg "sorted" = none) (b_tuple : mg "tuple" = none) (F : At K mg "_law_corpus" s__law_corpus) : CalV P w K (POG 7) mg base 4 "_law_corpus" sp_corpus := by
  refine F.calV sc__law_corpus (fun ds post h => ?_) (fun _ _ _ _ _ _ us hl => match us, hl with | [_, _], _ => rfl) (fun f cdv A outer s H E hr => ?_)
  · obtain ⟨ls, rfl, _⟩ := h
    rfl
  refine ⟨_, _, (qb_cons (qs_set (i := 2) sc__law_corpus.nd rfl (.inl rfl) (qm_new (qo_lst (qa_cons (qe_op op_mulS s2_mulS (qe_ix ix_S s2_ixS (qv 1) (qe_neg qe_int) (fun _ _ => rfl)) (qe_op op_add s2_0 qe_int (qe_new (qo_c rfl c__law_pluck hr (by decide) (by rfl) (qa_cons (qv 0) (qa_cons qe_int qa_nil)))))) qa_nil))))
      (qb_cons (qs_for PassesOwn.never rfl (qi_r1 (by rfl) b_range (qa_cons (qe_new (qo_c rfl c__law_trend hr (by decide) (by rfl) (qa_cons (qv 0) (qa_cons qe_int (qa_cons qe_int qa_nil))))) qa_nil)) (qg_name (i := 3) sc__law_corpus.nd rfl (.inl rfl))
      (qb_cons (qs_set (i := 4) sc__law_corpus.nd rfl (.inl rfl) (qm_of (qe_op op_add s2_0 qe_int (qe_new (qo_c rfl c__law_trend hr (by decide) (by rfl) (qa_cons (qv 0) (qa_cons qe_int (qa_cons qe_int qa_nil))))))))
      (qb_cons (qs_set (i := 5) sc__law_corpus.nd rfl (.inl rfl) (qm_of (qe_m1 (r := zJoin0 K) PySem.F.slot_str_join PySem.F.type_str_join mt_join0 sm_join0 (qe_str [] (by decide +kernel) (by decide)) (qq_l (ql_new (qo_lc rfl sc__law_corpus.nd (own := [("place", 6)]) (g := gName 6) (q := gpN 6) (ws := [6]) (tt := tYes) (pt := pYes) (qic_of (qi_r1 (by rfl) b_range (qa_cons (qe_op op_add s2_0 qe_int (qe_new (qo_c rfl c__law_pluck hr (by decide) (by rfl) (qa_cons (qv 0) (qa_cons qe_int qa_nil))))) qa_nil))) (blkOk_by (N := ["state", "letters", "texts", "k", "size", "piece", "place", "text"]) (sc := defScope s__law_corpus) (by decide +kernel)) (fun _ _ _ _ _ => (qg_name (i := 6) sc__law_corpus.nd rfl (.inl rfl))) (fun _ _ _ _ _ => qts_nil) (fun _ _ _ _ _ => (qe_ix ix_S s2_ixS (qv 1) (qe_new (qo_c rfl c__law_pluck hr (by decide) (by rfl) (qa_cons (qv 0) (qa_cons (qe_b1 call_lenS s1_lenS (by rfl) b_len PySem.boot_len (qv 1)) qa_nil)))) (fun _ _ => rfl))) (by decide)))))))
      (qb_one (qs_app (i := 2) rfl (qm_of (qe_sl sl_S s3_slS (qe_op op_mulS s2_mulS (qv 5) (qv 4)) qp_no (qp_some (qv 4)))) (fun h => pe_bm PySem.F.plainAttrs_list PySem.F.slot_list_append PySem.F.type_list_append mt_append (pv 2) (pa_cons h pa_nil)))))))
      (qb_one (qs_ret (qm_of (qe_t1 (r := zTupL K) call_tupL s1_tupL (by rfl) b_tuple (by decide +kernel) (ql_new (qo_lc rfl sc__law_corpus.nd (own := [("text", 7)]) (g := gName 7) (q := gpN 7) (ws := [7]) (tt := tYes) (pt := pYes) (qic_list rfl (ql_new (qo_sortSet rfl rfl (by rfl) b_sorted (by rfl) b_set (qvl 2)))) (blkOk_by (N := ["state", "letters", "texts", "k", "size", "piece", "place", "text"]) (sc := defScope s__law_corpus) (by decide +kernel)) (fun _ _ _ _ _ => (qg_name (i := 7) sc__law_corpus.nd rfl (.inl rfl))) (fun _ _ _ _ _ => qts_nil) (fun _ _ _ _ _ => (qe_tup (qa_cons (qv 7) (qa_cons (qe_new (qo_c rfl c__law_count hr (by decide) (by rfl) (qa_cons (qv 0) qa_nil))) qa_nil)))) (by decide))))))))), fun ds post h => ?_⟩
  obtain ⟨ls, rfl, hls, hpos, q⟩ := h
  refine en_is (ρ := [some (.sh (.pool)), some (.sh (.str ls)), none, none, none, none, none, none]) rfl ?_
  walk_at "u"
  have hle := hls.le
  obtain ⟨c1, hc1⟩ : ∃ c, ls.getLast? = some c := by
    cases ls with
    | nil => simp at hpos
    | cons a r => exact ⟨_, List.getLast?_eq_some_getLast (by simp)⟩
  have hcm1 := List.mem_of_getLast? hc1
  have hat : atI ls (-1) = some c1 := by
    obtain ⟨l0, rfl⟩ := List.getLast?_eq_some_iff.mp hc1
    exact atI_last
  refine u_ixS hat ?_
  walk_at "u"
  refine u_draw (by omega) fun v0 hv0 => ?_
  walk_at "u"
  refine u_mulS (by omega) (by omega) (by simp; omega) ?_
  have hrl : (rep (1 + (v0 : Int)) [c1]).length ≤ 80 := by rw [rep_len]; simp; omega
  have hrm : ∀ x ∈ rep (1 + (v0 : Int)) [c1], x ∈ ls := fun x hx => by rw [List.mem_singleton.mp (rep_mem hx)]; exact hcm1
  generalize rep (1 + (v0 : Int)) [c1] = t0 at *
  walk_at "u"
  refine u_bias (k := 1) (by omega) (by omega) fun v hv => ?_
  walk_at "u"
  refine u_forN (n := v) (fun i ρ => ∃ (ts : List Txt) (y1 y2 y3 : Option Vl), ts.length = i + 1 ∧ (∀ t ∈ ts, t.length ≤ 80 ∧ ∀ a ∈ t, a ∈ ls) ∧ ρ = [some (.sh .pool), some (.sh (.str ls)), some (.ol (ts.map .str)), y1, y2, y3, none, none]) ⟨[t0], _, _, _, rfl, (fun t ht => by rw [List.mem_singleton.mp ht]; exact ⟨hrl, hrm⟩), rfl⟩ ?_ ?_
  · rintro i ρ1 hi ⟨ts, y1, y2, y3, k1, k2, rfl⟩
    have htl : (ts.map PV.str).length = ts.length := List.length_map _
    walk_at "u"
    refine u_bias (k := 2) (by omega) (by omega) fun v2 hv2 => ?_
    walk_at "u"
    refine u_draw (by omega) fun v3 hv3 => ?_
    walk_at "u"
    refine u_lcAll (fun c => c ∈ ls) (fun c => .str [c]) (fun j d R hd hR => ?_) fun bs hbl hbs => ?_
    · walk_at "u"
      refine u_draw (by omega) fun v4 hv4 => ?_
      obtain ⟨c, hc⟩ : ∃ c, ls[v4]? = some c := ⟨_, List.getElem?_eq_getElem (by omega)⟩
      walk_at "u"
      exact hR c (List.mem_of_getElem? hc)
    rw [show bs.map (fun c => PV.str [c]) = chrs bs from rfl]
    rw [rngV_len] at hbl
    have hb4 : bs.length = 1 + v3 := by omega
    walk_at "u"
    refine join_chrs (by omega) ?_
    walk_at "u"
    refine u_mulS (by omega) (by omega) ?_ ?_
    · have : bs.length * (1 + (v2 : Int)).toNat ≤ 5 * 13 := Nat.mul_le_mul (by omega) (by omega)
      omega
    walk_at "u"
    rw [show (1 : Int) + (v2 : Int) = ((1 + v2 : Nat) : Int) by omega, cutL_to]
    have hmem : ∀ a ∈ (rep ((1 + v2 : Nat) : Int) bs).take (1 + v2), a ∈ ls := fun a ha => hbs a (rep_mem (List.mem_of_mem_take ha))
    have hlen : ((rep ((1 + v2 : Nat) : Int) bs).take (1 + v2)).length ≤ 1 + v2 := by rw [List.length_take]; omega
    generalize (rep ((1 + v2 : Nat) : Int) bs).take (1 + v2) = t at *
    walk_at "u"
    rw [show ts.map PV.str ++ [PV.str t] = (ts ++ [t]).map PV.str by rw [List.map_append]; rfl]
    refine ⟨_, _, _, _, by rw [List.length_append]; simp only [List.length_cons, List.length_nil]; omega, fun t' ht' => ?_, rfl⟩
    rcases List.mem_append.mp ht' with ht' | ht'
    · exact k2 t' ht'
    · rw [List.mem_singleton.mp ht']
      exact ⟨by omega, hmem⟩
  · rintro ρ1 ⟨ts, y1, y2, y3, k1, k2, rfl⟩
    have htl : (ts.map PV.str).length = ts.length := List.length_map _
    walk_at "u"
    refine u_sortSetN (by omega) fun ms hm1 hm2 hm3 => ?_
    have hml : (ms.map PV.str).length = ms.length := List.length_map _
    walk_at "u"
    refine u_lcAll (fun c : Txt × Int => c.1.length ≤ 80 ∧ ∀ a ∈ c.1, a ∈ ls) cP (fun i d R hd hR => ?_) fun cs hcl hcs => ?_
    · rw [List.getElem?_map] at hd
      obtain ⟨t, ht, rfl⟩ := Option.map_eq_some_iff.mp hd
      walk_at "u"
      refine ⟨rfl, fun n => ?_⟩
      walk_at "u"
      exact hR (t, n) (k2 t (hm1 t (List.mem_of_getElem? ht)))
    walk_at "u"
    rw [List.length_map] at hcl
    exact q cs ⟨hls.ck, by omega, hcs⟩ (by omega) (by omega)
abbrev s__law_sums : Stmt := topS 17
theorem sc__law_sums : FnScope ["lines", "entry", "found", "number", "pieces", "k", "pair", "row"] ["lines", "entry"] (defScope s__law_sums) := ⟨rfl, rfl, rfl, by decide +kernel, rfl, by decide +kernel, by decide +kernel⟩
theorem ok__law_sums (b_len : mg "len" = none) (b_range : mg "range" = none) (F : At K mg "_law_sums" s__law_sums) : CalV P w K PO mg base 1 "_law_sums" sp_sums := by
  refine F.calV sc__law_sums (fun ds post h => ?_) (fun _ _ _ _ _ _ us hl => match us, hl with | [_, _], _ => rfl) (fun f cdv A outer s H E hr => ?_)
  · obtain ⟨ls, e, rfl, _⟩ := h
    rfl
  refine ⟨_, _, (qb_cons (qs_set (i := 2) sc__law_sums.nd rfl (.inl rfl) (qm_new qo_dnewE))
      (qb_cons (qs_for PassesOwn.never rfl (qi_r1 (by rfl) b_range (qa_cons (qe_b1 (r := zLenQ K) call_lenQ s1_len (by rfl) b_len PySem.boot_len (qq_l (qvl 0))) qa_nil)) (qg_name (i := 3) sc__law_sums.nd rfl (.inl rfl))
      (qb_cons (qs_set (i := 4) sc__law_sums.nd rfl (.inl rfl) (qm_of (qe_ix (r := rIxT K) ix_tup s2_ixT (qe_ix (r := rIxL K) ix_list s2_ixL (qvl 0) (qv 3) (fun _ _ => rfl)) qe_int (fun _ _ => rfl))))
      (qb_one (qs_for PassesOwn.never rfl (qi_r1 (by rfl) b_range (qa_cons (qe_op op_sub s2_0 (qe_b1 (r := zLenQ K) call_lenQ s1_len (by rfl) b_len PySem.boot_len (qq_l (qvl 4))) qe_int) qa_nil)) (qg_name (i := 5) sc__law_sums.nd rfl (.inl rfl))
      (qb_cons (qs_set (i := 6) sc__law_sums.nd rfl (.inl rfl) (qm_of (qe_tup (qa_cons (qe_ix (r := rIxL K) ix_list s2_ixL (qvl 4) (qv 5) (fun _ _ => rfl)) (qa_cons (qe_ix (r := rIxL K) ix_list s2_ixL (qvl 4) (qe_op op_add s2_0 (qv 5) qe_int) (fun _ _ => rfl)) qa_nil)))))
      (qb_cut (qs_if (qt_din (qc_dninE hr.units1 (qv 6) (pv 2))) (qb_one (qs_dputE (i := 2) (qv 6) (qm_new (qo_lst (qa_cons qe_int (qa_cons qe_int qa_nil)))) (fun h => pg_sub (pv 2) h (set_dict hr.units1)))) qb_nil)
      (qb_take (i := 2) (m := 7) rfl sc__law_sums.nd rfl (.inl rfl) hr.units1 (pv 2) (qv 6) (fun _ _ => rfl) (qs_if (qt_cmp op_eqI s2_B (qv 3) (qv 1) (nomark _)) (qb_one (qs_stoA (i := 7) qe_int (qe_op op_add s2_0 (qe_ix (r := rIxL K) ix_list s2_ixL (qvl 7) qe_int (fun _ _ => rfl)) qe_int) (fun h => pg_sub (pv 7) h set_list))) (qb_one (qs_stoA (i := 7) qe_int (qe_op op_add s2_0 (qe_ix (r := rIxL K) ix_list s2_ixL (qvl 7) qe_int (fun _ _ => rfl)) (qe_ix (r := rIxT K) ix_tup s2_ixT (qe_ix (r := rIxL K) ix_list s2_ixL (qvl 0) (qv 3) (fun _ _ => rfl)) qe_int (fun _ _ => rfl))) (fun h => pg_sub (pv 7) h set_list)))) qb_nil)))))))
      (qb_one (qs_frz 2 (qs_ret (qm_of (qv 2))))))), fun ds post h => ?_⟩
  obtain ⟨ls, e, rfl, ok, q⟩ := h
  refine en_is (ρ := [some (.sh (.lst (ls.map lnP))), some (.sh (.int (e : Nat))), none, none, none, none, none, none]) rfl ?_
  walk_at "u"
  have few := ok.few
  have hll : (ls.map lnP).length = ls.length := List.length_map _
  walk_at "u"
  refine u_forN (n := ls.length) (fun i ρ => ∃ y3 y4 y5 y6 y7, ((sumN e ls i).map (·.1)).Nodup ∧ (sumN e ls i).length ≤ i * 80 ∧ ρ = [some (.sh (.lst (ls.map lnP))), some (.sh (.int (e : Nat))), some (.oE (kvE (sumN e ls i))), y3, y4, y5, y6, y7]) ⟨_, _, _, _, _, by simp [sumN], by simp [sumN], rfl⟩ ?_ ?_
  · rintro i ρ1 hi ⟨y3, y4, y5, y6, y7, n1, n2, rfl⟩
    obtain ⟨z, hz⟩ : ∃ z, ls[i]? = some z := ⟨_, List.getElem?_eq_getElem hi⟩
    have hld : lnD ls i = z := by unfold lnD; rw [List.getD_eq_getElem?_getD, hz]; rfl
    have zb := ok.bd z (List.mem_of_getElem? hz)
    obtain ⟨zb1, zb2, zb3⟩ := id zb
    have hpe := prs_eq_len z.1
    have hsn := sumN_succ e ls i
    rw [hld] at hsn
    have hal := gsts_ok (b := decide (i = e)) (c := z.2) (prs z.1) (sumN e ls i) n1
    have hn := prs_n z.1
    rw [← hsn] at hal
    generalize sumN e ls (i + 1) = f1 at *
    generalize sumN e ls i = f0 at *
    walk_at "u"
    refine u_forN (n := (prs z.1).length) (fun j ρ => ∃ y5 y6 y7, ρ = [some (.sh (.lst (ls.map lnP))), some (.sh (.int (e : Nat))), some (.oE (kvE (((prs z.1).take j).foldl (gst (decide (i = e)) z.2) f0))), some (.sh (.int (i : Nat))), some (.sh (lP z.1)), y5, y6, y7]) ⟨_, _, _, rfl⟩ ?_ ?_
    · rintro j ρ2 hj ⟨y5, y6, y7, rfl⟩
      obtain ⟨x, hx⟩ : ∃ x, z.1[j]? = some x := ⟨_, List.getElem?_eq_getElem (by omega)⟩
      obtain ⟨y, hy⟩ : ∃ y, z.1[j + 1]? = some y := ⟨_, List.getElem?_eq_getElem (by omega)⟩
      have hp := prs_get hx hy
      obtain ⟨g1, g2⟩ := gsts_ok (b := decide (i = e)) (c := z.2) ((prs z.1).take j) f0 n1
      rw [List.length_take] at g2
      rw [fold_take hp]
      generalize ((prs z.1).take j).foldl (gst (decide (i = e)) z.2) f0 = g at *
      walk_at "u"
      refine u_cut (fun ρ => ∃ y7, ρ = [some (.sh (.lst (ls.map lnP))), some (.sh (.int (e : Nat))), some (.oE (kvE (addG g (x, y)))), some (.sh (.int (i : Nat))), some (.sh (lP z.1)), some (.sh (.int (j : Nat))), some (.sh (pP (x, y))), y7]) ?_ ?_
      · walk_at "u"
        cases el : lookD g (x, y) with
        | none =>
          have hk : lookD (kvE g) (kk (x, y)) = none := by rw [look_kvE, el]; rfl
          rw [show lookD (kvE g) [Sum.inr (S x), Sum.inr (S y)] = none from hk]
          refine ite_t rfl ?_
          walk_at "u"
          refine u_dputEK (k := kk (x, y)) rfl hk (kvE_nd g1) (by rw [List.length_map]; omega) ?_
          rw [show kvE g ++ [(kk (x, y), [.int 0, .int 0])] = kvE (addG g (x, y)) by unfold addG; rw [el, if_neg (by simp), show kvE (g ++ [((x, y), ((0 : Int), (0 : Int)))]) = kvE g ++ kvE [((x, y), ((0 : Int), (0 : Int)))] from List.map_append]; rfl]
          exact ⟨_, rfl⟩
        | some r =>
          have hk : lookD (kvE g) (kk (x, y)) = some (iP r) := by rw [look_kvE, el]; rfl
          rw [show lookD (kvE g) [Sum.inr (S x), Sum.inr (S y)] = some (iP r) from hk]
          refine ite_f rfl ?_
          walk_at "u"
          rw [show addG g (x, y) = g by unfold addG; rw [el, if_pos (by rfl)]]
          exact ⟨_, rfl⟩
      · rintro ρ3 ⟨y8, rfl⟩
        walk_at "u"
        have hl2 : lookD (kvE (addG g (x, y))) (kk (x, y)) = some (iP ((lookD g (x, y)).getD (0, 0))) := by rw [look_kvE, addG_look]; rfl
        have hput := addG_put g (x, y) (decide (i = e)) z.2
        generalize (lookD g (x, y)).getD (0, 0) = r at *
        refine u_takeK (k := kk (x, y)) rfl hl2 fun a b => ?_
        walk_at "u"
        refine ite2 (fun h => ?_) (fun h => ?_)
        · have h := of_decide_eq_true h
          have this : putD (kvE (addG g (x, y))) (kk (x, y)) [.int r.1, .int (r.2 + 1)] = kvE (gst (decide (i = e)) z.2 g (x, y)) := by
            rw [← hput, ← put_kvE, show inc (decide (i = e)) z.2 r = (r.1, r.2 + 1) by unfold inc; rw [if_pos (decide_eq_true (by omega))]]
          walk_at "u"
          refine ⟨_, rfl, rfl, ?_⟩
          rw [← this]
          exact ⟨_, _, _, rfl⟩
        · have h := of_decide_eq_false h
          have this : putD (kvE (addG g (x, y))) (kk (x, y)) [.int (r.1 + z.2), .int r.2] = kvE (gst (decide (i = e)) z.2 g (x, y)) := by
            rw [← hput, ← put_kvE, show inc (decide (i = e)) z.2 r = (r.1 + z.2, r.2) by unfold inc; rw [if_neg (by simp; omega)]]
          walk_at "u"
          refine ⟨_, rfl, rfl, ?_⟩
          rw [← this]
          exact ⟨_, _, _, rfl⟩
    · rintro ρ2 ⟨y5, y6, y7, rfl⟩
      rw [List.take_length, ← hsn]
      exact ⟨_, _, _, _, _, hal.1, by omega, rfl⟩
  · rintro ρ1 ⟨y3, y4, y5, y6, y7, n1, n2, rfl⟩
    walk_at "u"
    exact q
abbrev s__law_joined : Stmt := topS 18
theorem sc__law_joined : FnScope ["pieces", "pair", "made", "at"] ["pieces", "pair"] (defScope s__law_joined) := ⟨rfl, rfl, rfl, by decide +kernel, rfl, by decide +kernel, by decide +kernel⟩
theorem ok__law_joined (b_len : mg "len" = none) (F : At K mg "_law_joined" s__law_joined) : CalV P w K PO mg base 1 "_law_joined" sp_joinedL := by
  refine F.calV sc__law_joined (fun ds post h => ?_) (fun _ _ _ _ _ _ us hl => match us, hl with | [_, _], _ => rfl) (fun f cdv A outer s H E hr => ?_)
  · obtain ⟨l, r, p, rfl, _⟩ := h
    rfl
  refine ⟨_, _, (qb_cons (qs_set (i := 2) sc__law_joined.nd rfl (.inl rfl) (qm_new (qo_lst qa_nil)))
      (qb_cons (qs_set (i := 3) sc__law_joined.nd rfl (.inl rfl) (qm_of qe_int))
      (qb_cons (qs_while PassesOwn.never (qt_cmp op_lt s2_B (qv 3) (qe_b1 (r := zLenQ K) call_lenQ s1_len (by rfl) b_len PySem.boot_len (qq_l (qvl 0))) (nomark _))
      (qb_one (qs_if (qw (qw_and (qt_cmp op_lt s2_B (qe_op op_add s2_0 (qv 3) qe_int) (qe_b1 (r := zLenQ K) call_lenQ s1_len (by rfl) b_len PySem.boot_len (qq_l (qvl 0))) (nomark _)) (qw_and (qt_cmp op_eqS s2_eqS (qe_ix (r := rIxL K) ix_list s2_ixL (qvl 0) (qv 3) (fun _ _ => rfl)) (qe_ix (r := rIxT K) ix_tup s2_ixT (qv 1) qe_int (fun _ _ => rfl)) (nomark _)) (qw_and1 (qt_cmp op_eqS s2_eqS (qe_ix (r := rIxL K) ix_list s2_ixL (qvl 0) (qe_op op_add s2_0 (qv 3) qe_int) (fun _ _ => rfl)) (qe_ix (r := rIxT K) ix_tup s2_ixT (qv 1) qe_int (fun _ _ => rfl)) (nomark _)))))) (qb_cons (qs_app (i := 2) rfl (qm_of (qe_op op_addS s2_addS (qe_ix (r := rIxT K) ix_tup s2_ixT (qv 1) qe_int (fun _ _ => rfl)) (qe_ix (r := rIxT K) ix_tup s2_ixT (qv 1) qe_int (fun _ _ => rfl)))) (fun h => pe_bm PySem.F.plainAttrs_list PySem.F.slot_list_append PySem.F.type_list_append mt_append (pv 2) (pa_cons h pa_nil)))
      (qb_one (qs_set (i := 3) sc__law_joined.nd rfl (.inl rfl) (qm_of (qe_op op_add s2_0 (qv 3) qe_int))))) (qb_cons (qs_app (i := 2) rfl (qm_of (qe_ix (r := rIxL K) ix_list s2_ixL (qvl 0) (qv 3) (fun _ _ => rfl))) (fun h => pe_bm PySem.F.plainAttrs_list PySem.F.slot_list_append PySem.F.type_list_append mt_append (pv 2) (pa_cons h pa_nil)))
      (qb_one (qs_set (i := 3) sc__law_joined.nd rfl (.inl rfl) (qm_of (qe_op op_add s2_0 (qv 3) qe_int))))))))
      (qb_one (qs_ret (qmov 2)))))), fun ds post h => ?_⟩
  obtain ⟨l, r, p, rfl, hp, hx, hlr, q⟩ := h
  refine en_is (ρ := [some (.sh (lP p)), some (.sh (pP (l, r))), none, none]) rfl ?_
  walk_at "u"
  refine u_while (fun m ρ => ∃ (i : Nat) (q1 : List Txt), i ≤ p.length ∧ q1.length ≤ i ∧ jn l r p = q1 ++ jn l r (p.drop i) ∧ m = p.length - i ∧ ρ = [some (.sh (lP p)), some (.sh (pP (l, r))), some (.ol (q1.map .str)), some (.sh (.int (i : Nat)))]) p.length ⟨0, [], Nat.zero_le _, Nat.le_refl _, by rw [List.drop_zero]; rfl, rfl, rfl⟩ ?_
  rintro m ρ1 ⟨i, q1, hi, hq, he, rfl, rfl⟩
  have hql : (q1.map PV.str).length = q1.length := List.length_map _
  have hpl : (p.map PV.str).length = p.length := List.length_map _
  have hlr1 := hlr.1
  walk_at "u"
  refine ite2 (fun h => ?_) (fun h => ?_)
  · have h := of_decide_eq_true h
    have hlt : i < p.length := by omega
    obtain ⟨x, hxi⟩ : ∃ x, p[i]? = some x := ⟨_, List.getElem?_eq_getElem hlt⟩
    have fin : ¬ (x = l ∧ p[i + 1]? = some r) → ∃ m', m' < p.length - i ∧ ∃ (i' : Nat) (q2 : List Txt), i' ≤ p.length ∧ q2.length ≤ i' ∧ jn l r p = q2 ++ jn l r (p.drop i') ∧ m' = p.length - i' ∧
        ([some (.sh (lP p)), some (.sh (pP (l, r))), some (.ol (q1.map .str ++ [.str x])), some (.sh (.int ((i : Int) + 1)))] : En) = [some (.sh (lP p)), some (.sh (pP (l, r))), some (.ol (q2.map .str)), some (.sh (.int (i' : Nat)))] := fun hn => by
      refine ⟨p.length - (i + 1), by omega, i + 1, q1 ++ [x], by omega, by rw [List.length_append]; simp only [List.length_cons, List.length_nil]; omega, ?_, rfl, ?_⟩
      · rw [he, jn_drop_ne hxi hn, List.append_assoc]; rfl
      · rw [List.map_append]; rfl
    walk_at "u"
    refine ite2 (fun e2 => ?_) (fun e2 => ?_)
    · have e2 := of_decide_eq_true e2
      have hlt2 : i + 1 < p.length := by omega
      obtain ⟨y, hy⟩ : ∃ y, p[i + 1]? = some y := ⟨_, List.getElem?_eq_getElem hlt2⟩
      walk_at "u"
      refine ite2 (fun e => ?_) (fun e => ?_)
      · have e := of_decide_eq_true e
        subst e
        walk_at "u"
        refine ite2 (fun e3 => ?_) (fun e3 => ?_)
        · have e3 := of_decide_eq_true e3
          subst e3
          walk_at "u"
          refine ⟨p.length - (i + 2), by omega, i + 2, q1 ++ [x ++ y], by omega, by rw [List.length_append]; simp only [List.length_cons, List.length_nil]; omega, ?_, rfl, ?_⟩
          · rw [he, jn_drop_eq hxi hy, List.append_assoc]; rfl
          · rw [List.map_append]; rfl
        · have e3 := of_decide_eq_false e3
          walk_at "u"
          exact fin fun z => by rw [hy] at z; exact e3 (Option.some.inj z.2)
      · have e := of_decide_eq_false e
        walk_at "u"
        exact fin fun z => e z.1
    · have e2 := of_decide_eq_false e2
      walk_at "u"
      exact fin fun z => by have := (List.getElem?_eq_some_iff.mp z.2).1; omega
  · have h := of_decide_eq_false h
    have hie : i = p.length := by omega
    subst hie
    rw [List.drop_length, show jn l r [] = [] from rfl, List.append_nil] at he
    walk_at "u"
    rw [← he]
    exact q
abbrev s__law_demands : Stmt := topS 19
theorem sc__law_demands : FnScope ["corpus", "steps", "entry", "lines", "own", "demands", "step", "found", "best", "most", "pair", "less", "line", "sign"] ["corpus", "steps", "entry"] (defScope s__law_demands) := ⟨rfl, rfl, rfl, by decide +kernel, rfl, by decide +kernel, by decide +kernel⟩
theorem ok__law_demands (c__law_joined : CalV P w K PO mg base 1 "_law_joined" sp_joinedL) (c__law_sums : CalV P w K PO mg base 1 "_law_sums" sp_sums) (b_range : mg "range" = none) (b_sorted : mg "sorted" = none) (F : At K mg "_law_demands" s__law_demands) : CalV P w K PO mg base 2 "_law_demands" sp_dem := by
  refine F.calV sc__law_demands (fun ds post h => ?_) (fun _ _ _ _ _ _ us hl => match us, hl with | [_, _, _], _ => rfl) (fun f cdv A outer s H E hr => ?_)
  · obtain ⟨ls, cs, n, e, c, t, own, rfl, _⟩ := h
    rfl
  refine ⟨_, _, (qb_cut (qs_setLcS (i := 3) rfl sc__law_demands.nd rfl rfl (sw_true rfl rfl rfl (by decide +kernel)) (own := [("line", 12)]) (g := gName 12) (q := gpN 12) (ws := [12]) (tt := tYes) (pt := pYes) (qic_of (qi_or (qi_list rfl (qv 0)) (qi_tup rfl (qv 0)))) (blkOk_by (N := ["corpus", "steps", "entry", "lines", "own", "demands", "step", "found", "best", "most", "pair", "less", "line", "sign"]) (sc := defScope s__law_demands) (by decide +kernel)) (fun _ _ _ _ _ => (qg_name (i := 12) sc__law_demands.nd rfl (.inl rfl))) (fun _ _ _ _ _ => qts_nil) (fun _ _ _ _ _ => (qe_tup (qa_cons (qe_new (qo_lc rfl sc__law_demands.nd (own := [("sign", 13)]) (g := gName 13) (q := gpN 13) (ws := [13]) (tt := tYes) (pt := pYes) (qic_of (qi_str (qe_ix (r := rIxT K) ix_tup s2_ixT (qv 12) qe_int (fun _ _ => rfl)))) (blkOk_by (N := ["corpus", "steps", "entry", "lines", "own", "demands", "step", "found", "best", "most", "pair", "less", "line", "sign"]) (by kernel_rfl)) (fun _ _ _ _ _ => (qg_name (i := 13) sc__law_demands.nd rfl (.inl rfl))) (fun _ _ _ _ _ => qts_nil) (fun _ _ _ _ _ => (qv 13)) (by decide))) (qa_cons (qe_ix (r := rIxT K) ix_tup s2_ixT (qv 12) qe_int (fun _ _ => rfl)) qa_nil)))) (by decide))
      (qb_cut (qs_set (i := 4) sc__law_demands.nd rfl (.inl rfl) (qm_of (qe_ix (r := rIx K) ix_seq s2_ixA (qe_ix (r := rIx K) ix_seq s2_ixA (qv 0) (qv 2) (fun _ _ => rfl)) qe_int (fun _ _ => rfl))))
      (qb_cons (qs_set (i := 5) sc__law_demands.nd rfl (.inl rfl) (qm_new (qo_lst qa_nil)))
      (qb_cons (qs_for PassesOwn.never rfl (qi_r1 (by rfl) b_range (qa_cons (qv 1) qa_nil)) (qg_name (i := 6) sc__law_demands.nd rfl (.inl rfl))
      (qb_cons (qs_set (i := 7) sc__law_demands.nd rfl (.inl rfl) (qm_of (qe_new (qo_c rfl c__law_sums hr (by decide) (by rfl) (qa_cons (qv 3) (qa_cons (qv 2) qa_nil))))))
      (qb_cons (qs_set (i := 8) sc__law_demands.nd rfl (.inr rfl) (qm_of qe_non))
      (qb_cons (qs_set (i := 9) sc__law_demands.nd rfl (.inl rfl) (qm_of qe_int))
      (qb_cons (qs_for PassesOwn.never rfl (qi_list rfl (qe_new (qo_b1 (r := rSortDT) (cr_sortDT rfl) s1_sortDT (by rfl) b_sorted (by decide +kernel) (qvdT 7)))) (qg_name (i := 10) sc__law_demands.nd rfl (.inl rfl))
      (qb_one (qs_if (qt_cmp op_gt s2_B (qe_op op_add s2_0 (qe_ix (r := rIxL K) ix_list s2_ixL (ql_of (qe_dgetT hr.units1 (qvdT 7) (qv 10) (fun _ _ => rfl))) qe_int (fun _ _ => rfl)) (qe_op op_mul s2_I (qe_ix (r := rIxL K) ix_list s2_ixL (ql_of (qe_dgetT hr.units1 (qvdT 7) (qv 10) (fun _ _ => rfl))) qe_int (fun _ _ => rfl)) (qv 4))) (qv 9) (nomark _)) (qb_cons (qs_set (i := 9) sc__law_demands.nd rfl (.inl rfl) (qm_of (qe_op op_add s2_0 (qe_ix (r := rIxL K) ix_list s2_ixL (ql_of (qe_dgetT hr.units1 (qvdT 7) (qv 10) (fun _ _ => rfl))) qe_int (fun _ _ => rfl)) (qe_op op_mul s2_I (qe_ix (r := rIxL K) ix_list s2_ixL (ql_of (qe_dgetT hr.units1 (qvdT 7) (qv 10) (fun _ _ => rfl))) qe_int (fun _ _ => rfl)) (qv 4)))))
      (qb_one (qs_set (i := 8) sc__law_demands.nd rfl (.inr rfl) (qm_of (qv 10))))) qb_nil)))
      (qb_cons (qs_if (qt_cmp op_isN2 s2_isN (qv 8) qe_non (nomark _)) (qb_cons (qs_for PassesOwn.never rfl (qi_list rfl (qe_new (qo_b1 (r := rSortDT) (cr_sortDT rfl) s1_sortDT (by rfl) b_sorted (by decide +kernel) (qvdT 7)))) (qg_name (i := 10) sc__law_demands.nd rfl (.inl rfl))
      (qb_one (qs_app (i := 5) rfl (qm_of (qe_tup (qa_cons (qe_neg (qe_ix (r := rIxL K) ix_list s2_ixL (ql_of (qe_dgetT hr.units1 (qvdT 7) (qv 10) (fun _ _ => rfl))) qe_int (fun _ _ => rfl))) (qa_cons (qe_neg (qe_ix (r := rIxL K) ix_list s2_ixL (ql_of (qe_dgetT hr.units1 (qvdT 7) (qv 10) (fun _ _ => rfl))) qe_int (fun _ _ => rfl))) qa_nil)))) (fun h => pe_bm PySem.F.plainAttrs_list PySem.F.slot_list_append PySem.F.type_list_append mt_append (pv 5) (pa_cons h pa_nil)))))
      (qb_one (qs_ret (qmov 5)))) qb_nil)
      (qb_cons (qs_app (i := 5) rfl (qm_of (qe_tup (qa_cons (qe_op op_sub s2_0 (qe_ix (r := rIxL K) ix_list s2_ixL (ql_of (qe_dgetT hr.units1 (qvdT 7) (qv 8) (fun _ _ => rfl))) qe_int (fun _ _ => rfl)) qe_int) (qa_cons (qe_ix (r := rIxL K) ix_list s2_ixL (ql_of (qe_dgetT hr.units1 (qvdT 7) (qv 8) (fun _ _ => rfl))) qe_int (fun _ _ => rfl)) qa_nil)))) (fun h => pe_bm PySem.F.plainAttrs_list PySem.F.slot_list_append PySem.F.type_list_append mt_append (pv 5) (pa_cons h pa_nil)))
      (qb_cons (qs_for PassesOwn.never rfl (qi_list rfl (qe_new (qo_b1 (r := rSortDT) (cr_sortDT rfl) s1_sortDT (by rfl) b_sorted (by decide +kernel) (qvdT 7)))) (qg_name (i := 10) sc__law_demands.nd rfl (.inl rfl))
      (qb_cons (qs_set (i := 11) sc__law_demands.nd rfl (.inl rfl) (qm_of (qe_if (qt_cmp (r := rLtTS K) (op_ltTS (Nat.lt_of_le_of_lt (Nat.le_add_right _ 64) hr.units)) s2_ltTS (qv 10) (qv 8) (nomark _)) qe_int qe_int)))
      (qb_one (qs_app (i := 5) rfl (qm_of (qe_tup (qa_cons (qe_op op_sub s2_0 (qe_op op_sub s2_0 (qe_ix (r := rIxL K) ix_list s2_ixL (ql_of (qe_dgetT hr.units1 (qvdT 7) (qv 8) (fun _ _ => rfl))) qe_int (fun _ _ => rfl)) (qe_ix (r := rIxL K) ix_list s2_ixL (ql_of (qe_dgetT hr.units1 (qvdT 7) (qv 10) (fun _ _ => rfl))) qe_int (fun _ _ => rfl))) (qv 11)) (qa_cons (qe_op op_sub s2_0 (qe_ix (r := rIxL K) ix_list s2_ixL (ql_of (qe_dgetT hr.units1 (qvdT 7) (qv 8) (fun _ _ => rfl))) qe_int (fun _ _ => rfl)) (qe_ix (r := rIxL K) ix_list s2_ixL (ql_of (qe_dgetT hr.units1 (qvdT 7) (qv 10) (fun _ _ => rfl))) qe_int (fun _ _ => rfl))) qa_nil)))) (fun h => pe_bm PySem.F.plainAttrs_list PySem.F.slot_list_append PySem.F.type_list_append mt_append (pv 5) (pa_cons h pa_nil))))))
      (qb_one (qs_setLcS (i := 3) rfl sc__law_demands.nd rfl rfl (sw_true rfl rfl rfl (by decide +kernel)) (own := [("line", 12)]) (g := gName 12) (q := gpN 12) (ws := [12]) (tt := tYes) (pt := pYes) (qic_list rfl (qvl 3)) (blkOk_by (N := ["corpus", "steps", "entry", "lines", "own", "demands", "step", "found", "best", "most", "pair", "less", "line", "sign"]) (sc := defScope s__law_demands) (by decide +kernel)) (fun _ _ _ _ _ => (qg_name (i := 12) sc__law_demands.nd rfl (.inl rfl))) (fun _ _ _ _ _ => qts_nil) (fun _ _ _ _ _ => (qe_tup (qa_cons (qe_new (qo_c rfl c__law_joined hr (by decide) (by rfl) (qa_cons (qe_ix (r := rIxT K) ix_tup s2_ixT (qv 12) qe_int (fun _ _ => rfl)) (qa_cons (qv 8) qa_nil)))) (qa_cons (qe_ix (r := rIxT K) ix_tup s2_ixT (qv 12) qe_int (fun _ _ => rfl)) qa_nil)))) (by decide)))))))))))
      (qb_one (qs_ret (qmov 5))))))), fun ds post h => ?_⟩
  obtain ⟨ls, cs, n, e, c, t, own, rfl, hc, ok, hn, he, q⟩ := h
  refine en_is (ρ := [some (.sh (c)), some (.sh (.int (n : Nat))), some (.sh (.int (e : Nat))), none, none, none, none, none, none, none, none, none, none, none]) rfl ?_
  walk_at "u"
  have few := ok.few
  have hcl : (cs.map cP).length = cs.length := List.length_map _
  have hnb : ∀ c ∈ cs, c.1.length ≤ 80 := fun c hc => (ok.bd c hc).1
  have lok := ok.ln
  have hown : ∀ z, (ln0 cs)[e]? = some z → z.2 = own := fun z hz => by
    unfold ln0 at hz
    rw [List.getElem?_map, he] at hz
    cases hz
    rfl
  refine u_cut (fun ρ => ρ = [some (.sh c), some (.sh (.int (n : Nat))), some (.sh (.int (e : Nat))), some (.sh (.lst ((ln0 cs).map lnP))), none, none, none, none, none, none, none, none, none, none]) ?_ ?_
  · have hm : (ln0 cs).map lnP = cs.map fun x => lnP (x.1.map fun a => [a], x.2) := by unfold ln0; rw [List.map_map]; rfl
    rw [hm]
    rcases hc with rfl | rfl
    · walk_at "u"
      refine .inr ?_
      walk_at "u"
      refine u_lcMap (xs := cs) (f := cP) (fun x => lnP (x.1.map fun a => [a], x.2)) (fun i x R hx h => ?_) ?_
      · have hb := hnb x (List.mem_of_getElem? hx)
        walk_at "u"
        refine u_lcMap (xs := x.1) (f := fun c => .str [c]) (fun c => .str [c]) (fun j y R2 hy h2 => ?_) ?_
        · walk_at "u"
          exact h2
        walk_at "u"
        rw [chs_str]
        exact h
      walk_at "u"
      rfl
    · walk_at "u"
      refine .inl ?_
      walk_at "u"
      refine u_lcMap (xs := cs) (f := cP) (fun x => lnP (x.1.map fun a => [a], x.2)) (fun i x R hx h => ?_) ?_
      · have hb := hnb x (List.mem_of_getElem? hx)
        walk_at "u"
        refine u_lcMap (xs := x.1) (f := fun c => .str [c]) (fun c => .str [c]) (fun j y R2 hy h2 => ?_) ?_
        · walk_at "u"
          exact h2
        walk_at "u"
        rw [chs_str]
        exact h
      walk_at "u"
      rfl
  · rintro ρ1 rfl
    refine u_cut (fun ρ => ρ = [some (.sh c), some (.sh (.int (n : Nat))), some (.sh (.int (e : Nat))), some (.sh (.lst ((ln0 cs).map lnP))), some (.sh (.int own)), none, none, none, none, none, none, none, none, none]) ?_ ?_
    · have he2 : (cs.map cP)[e]? = some (cP (t, own)) := by rw [List.getElem?_map, he]; rfl
      rcases hc with rfl | rfl
      · walk_at "u"
        rfl
      · walk_at "u"
        rfl
    · rintro ρ2 rfl
      walk_at "u"
      refine u_forN (n := n) (fun i ρ => ∃ (lz : Ln) (dn : List (Int × Int)) (y1 y2 y3 y4 y5 y6 : Option Vl), LnOk 40 80 lz ∧ (∀ z, lz[e]? = some z → z.2 = own) ∧ dn.length ≤ i * 3201 ∧ dmA own e n (ln0 cs) = dn ++ dmA own e (n - i) lz ∧ ρ = [some (.sh c), some (.sh (.int (n : Nat))), some (.sh (.int (e : Nat))), some (.sh (.lst (lz.map lnP))), some (.sh (.int own)), some (.ol (dn.map dmV)), y1, y2, y3, y4, y5, y6, none, none]) ⟨ln0 cs, [], _, _, _, _, _, _, lok, hown, by simp, by rw [Nat.sub_zero]; rfl, rfl⟩ ?_ ?_
      · rintro i ρ1 hi ⟨lz, dn, y1, y2, y3, y4, y5, y6, k1, k2, k3, k4, rfl⟩
        obtain ⟨m, hm⟩ : ∃ m, n - i = m + 1 := ⟨n - i - 1, by omega⟩
        have hm2 : n - (i + 1) = m := by omega
        rw [hm] at k4
        rw [hm2]
        have hdl : (dn.map dmV).length = dn.length := List.length_map _
        have hpair := sum_pair (e := e) k1
        have hlen := sum_len (e := e) k1
        have hbd := gG_bd (e := e) k1
        walk_at "u"
        refine ⟨lz, e, rfl, k1, ?_⟩
        rw [dG_eq]
        have hlook := @look_gG (sumN e lz lz.length)
        have hbst := @bst_mem (mapG (fun r => r.1 + r.2 * own) (sumN e lz lz.length))
        have hkey : ∀ p ∈ srt ((sumN e lz lz.length).map (·.1)), p ∈ (sumN e lz lz.length).map (·.1) := fun p hp => (srt_perm _).mem_iff.mp hp
        have hsm : ∀ z ∈ sumN e lz lz.length, z.1.1.length ≤ 16777216 ∧ z.1.2.length ≤ 16777216 := fun z hz => by
          have := (hpair z.1 (List.mem_map.mpr ⟨z, hz, rfl⟩)).1
          omega
        have hvG : ∀ p, vG (mapG (fun r => r.1 + r.2 * own) (sumN e lz lz.length)) p = (gG (sumN e lz lz.length) p).1 + (gG (sumN e lz lz.length) p).2 * own := fun p => vG_map _ (by simp) _ p
        have hkm := keys_mapG (fun r => r.1 + r.2 * own) (sumN e lz lz.length)
        have hb0 : bst (mapG (fun r => r.1 + r.2 * own) (sumN e lz lz.length)) = ((srt ((sumN e lz lz.length).map (·.1))).foldl (bs (mapG (fun r => r.1 + r.2 * own) (sumN e lz lz.length))) (none, 0)).1 := by unfold bst; rw [hkm]
        have hsl := (srt_perm ((sumN e lz lz.length).map (·.1))).length_eq
        rw [List.length_map] at hsl
        have dm0 := @dmA_none own e m lz
        have dm1 := @dmA_some own e m lz
        have hds : ∀ p, dmL p (sumN e lz lz.length) = dmL p (sumN e lz lz.length) := fun _ => rfl
        have hne : ∀ p, (dmL p (sumN e lz lz.length)).length ≤ 3201 := fun p => by have := dmLen p (sumN e lz lz.length); omega
        generalize sumN e lz lz.length = F at *
        walk_at "u"
        refine u_sortG (f := F) (g := fun r => .lst (iP r)) hsm ?_
        walk_at "u"
        refine u_forT (xs := srt (F.map (·.1))) (f := pP) (fun j ρ => ∃ y4, ρ = [some (.sh c), some (.sh (.int (n : Nat))), some (.sh (.int (e : Nat))), some (.sh (.lst (lz.map lnP))), some (.sh (.int own)), some (.ol (dn.map dmV)), some (.sh (.int (i : Nat))), some (.sh (dG F)), some (.sh (oP (((srt (F.map (·.1))).take j).foldl (bs (mapG (fun r => r.1 + r.2 * own) F)) (none, 0)).1)), some (.sh (.int (((srt (F.map (·.1))).take j).foldl (bs (mapG (fun r => r.1 + r.2 * own) F)) (none, 0)).2)), y4, y6, none, none]) ⟨_, rfl⟩ ?_ ?_
        · rintro j p ρ2 hp ⟨y4, rfl⟩
          have hk := hlook (hkey p (List.mem_of_getElem? hp))
          have hb := hbd p
          rw [fold_take hp]
          generalize ((srt (F.map (·.1))).take j).foldl (bs (mapG (fun r => r.1 + r.2 * own) F)) (none, 0) = s at *
          walk_at "u"
          refine ite2 (fun h => ?_) (fun h => ?_)
          · have h := of_decide_eq_true h
            rw [← hvG] at h
            walk_at "u"
            rw [show bs (mapG (fun r => r.1 + r.2 * own) F) s p = (some p, vG (mapG (fun r => r.1 + r.2 * own) F) p) by unfold bs; rw [if_pos h], ← hvG]
            exact ⟨_, rfl⟩
          · have h := of_decide_eq_false h
            rw [← hvG] at h
            walk_at "u"
            rw [show bs (mapG (fun r => r.1 + r.2 * own) F) s p = s by unfold bs; rw [if_neg h]]
            exact ⟨_, rfl⟩
        · rintro ρ2 ⟨y4, rfl⟩
          rw [List.take_length, ← hb0]
          cases hb : bst (mapG (fun r => r.1 + r.2 * own) F) with
          | none =>
            rw [show oP none = PV.non from rfl]
            walk_at "u"
            refine u_sortG (f := F) (g := fun r => .lst (iP r)) hsm ?_
            walk_at "u"
            refine u_forT (xs := srt (F.map (·.1))) (f := pP) (fun j ρ => ∃ y4, ρ = [some (.sh c), some (.sh (.int (n : Nat))), some (.sh (.int (e : Nat))), some (.sh (.lst (lz.map lnP))), some (.sh (.int own)), some (.ol (dn.map dmV ++ ((srt (F.map (·.1))).take j).map fun q => dmV (-(gG F q).1, -(gG F q).2))), some (.sh (.int (i : Nat))), some (.sh (dG F)), some (.sh .non), some (.sh (.int ((srt (F.map (·.1))).foldl (bs (mapG (fun r => r.1 + r.2 * own) F)) (none, 0)).2)), y4, y6, none, none]) ⟨_, by rw [List.take_zero, List.map_nil, List.append_nil]⟩ ?_ ?_
            · rintro j p ρ3 hp ⟨y4, rfl⟩
              have hj := (List.getElem?_eq_some_iff.mp hp).1
              have hk := hlook (hkey p (List.mem_of_getElem? hp))
              have hbp := hbd p
              have hsz : (dn.map dmV ++ ((srt (F.map (·.1))).take j).map fun q => dmV (-(gG F q).1, -(gG F q).2)).length < 16777216 := by
                rw [List.length_append, List.length_map, List.length_map, List.length_take]
                omega
              walk_at "u"
              rw [List.append_assoc, show (((srt (F.map (·.1))).take j).map fun q => dmV (-(gG F q).1, -(gG F q).2)) ++ [PV.tup [.int (-(gG F p).1), .int (-(gG F p).2)]] = ((srt (F.map (·.1))).take (j + 1)).map fun q => dmV (-(gG F q).1, -(gG F q).2) by rw [List.take_succ, hp]; simp]
              exact ⟨_, rfl⟩
            · rintro ρ3 ⟨y4, rfl⟩
              rw [List.take_length]
              walk_at "u"
              rw [k4, dm0 hb, List.map_append, show (dmL none F).map dmV = (srt (F.map (·.1))).map fun q => dmV (-(gG F q).1, -(gG F q).2) by unfold dmL; dsimp only; rw [List.map_map]; rfl] at q
              exact q
          | some b =>
            have hbm := hbst hb
            rw [hkm] at hbm
            have hkb := hlook hbm
            have hbb := hbd b
            have hcb := (hpair b hbm).2
            have hjl := (hpair b hbm).1
            rw [show oP (some b) = pP b from rfl]
            walk_at "u"
            refine u_sortG (f := F) (g := fun r => .lst (iP r)) hsm ?_
            walk_at "u"
            refine u_forT (xs := srt (F.map (·.1))) (f := pP) (fun j ρ => ∃ y4 y6, ρ = [some (.sh c), some (.sh (.int (n : Nat))), some (.sh (.int (e : Nat))), some (.sh (.lst (lz.map lnP))), some (.sh (.int own)), some (.ol (dn.map dmV ++ [dmV ((gG F b).1 - 1, (gG F b).2)] ++ ((srt (F.map (·.1))).take j).map fun q => dmV ((gG F b).1 - (gG F q).1 - (if ltb q b = true then 1 else 0), (gG F b).2 - (gG F q).2))), some (.sh (.int (i : Nat))), some (.sh (dG F)), some (.sh (pP b)), some (.sh (.int ((srt (F.map (·.1))).foldl (bs (mapG (fun r => r.1 + r.2 * own) F)) (none, 0)).2)), y4, y6, none, none]) ⟨_, _, by rw [List.take_zero, List.map_nil, List.append_nil]⟩ ?_ ?_
            · rintro j p ρ3 hp ⟨y4, y6, rfl⟩
              have hj := (List.getElem?_eq_some_iff.mp hp).1
              have hk := hlook (hkey p (List.mem_of_getElem? hp))
              have hbp := hbd p
              have hsz : (dn.map dmV ++ [dmV ((gG F b).1 - 1, (gG F b).2)] ++ ((srt (F.map (·.1))).take j).map fun q => dmV ((gG F b).1 - (gG F q).1 - (if ltb q b = true then 1 else 0), (gG F b).2 - (gG F q).2)).length < 16777216 := by
                rw [List.length_append, List.length_append, List.length_map, List.length_map, List.length_take, List.length_singleton]
                omega
              have e3 : ((srt (F.map (·.1))).take (j + 1)).map (fun q => dmV ((gG F b).1 - (gG F q).1 - (if ltb q b = true then 1 else 0), (gG F b).2 - (gG F q).2)) = (((srt (F.map (·.1))).take j).map fun q => dmV ((gG F b).1 - (gG F q).1 - (if ltb q b = true then 1 else 0), (gG F b).2 - (gG F q).2)) ++ [dmV ((gG F b).1 - (gG F p).1 - (if ltb p b = true then 1 else 0), (gG F b).2 - (gG F p).2)] := by rw [List.take_succ, hp]; simp
              rw [e3]
              generalize (((srt (F.map (·.1))).take j).map fun q => dmV ((gG F b).1 - (gG F q).1 - (if ltb q b = true then 1 else 0), (gG F b).2 - (gG F q).2)) = L at *
              walk_at "u"
              refine u_ltTS (as := [p.1, p.2]) (bs := [b.1, b.2]) ?_
              walk_at "u"
              refine ite2 (fun h => ?_) (fun h => ?_)
              · have h : ltb p b = true := h
                rw [if_pos h]
                walk_at "u"
                rw [List.append_assoc (dn.map dmV ++ [dmV ((gG F b).1 - 1, (gG F b).2)]) L]
                exact ⟨_, _, rfl⟩
              · have h : ltb p b = false := h
                rw [if_neg (by rw [h]; simp)]
                walk_at "u"
                rw [List.append_assoc (dn.map dmV ++ [dmV ((gG F b).1 - 1, (gG F b).2)]) L]
                exact ⟨_, _, rfl⟩
            · rintro ρ3 ⟨y4, y6, rfl⟩
              rw [List.take_length]
              walk_at "u"
              refine u_lcMap (xs := lz) (f := lnP) (fun z => lnP (jn b.1 b.2 z.1, z.2)) (fun j z R hz h => ?_) ?_
              · have hbz := k1.bd z (List.mem_of_getElem? hz)
                walk_at "u"
                refine ⟨b.1, b.2, z.1, rfl, by have := hbz.2.1; omega, fun x hx => ?_, ⟨by show b.1.length + b.2.length ≤ 10000; omega, hcb⟩, ?_⟩
                · have := mem_flat hx
                  have := hbz.1
                  exact ⟨by omega, hbz.ck hx⟩
                walk_at "u"
                exact h
              walk_at "u"
              rw [show (lz.map fun z => lnP (jn b.1 b.2 z.1, z.2)) = (jnL b lz).map lnP by unfold jnL; rw [List.map_map]; rfl, show (dn.map dmV ++ [dmV ((gG F b).1 - 1, (gG F b).2)] ++ (srt (F.map (·.1))).map fun q => dmV ((gG F b).1 - (gG F q).1 - (if ltb q b = true then 1 else 0), (gG F b).2 - (gG F q).2)) = (dn ++ dmL (some b) F).map dmV by rw [List.map_append, List.append_assoc]; unfold dmL; dsimp only; rw [List.map_cons, List.map_map]; rfl]
              refine ⟨jnL b lz, dn ++ dmL (some b) F, _, _, _, _, _, _, k1.jn, fun z hz => ?_, ?_, by rw [k4, dm1 hb, List.append_assoc], rfl⟩
              · unfold jnL at hz
                rw [List.getElem?_map] at hz
                obtain ⟨y, hy, rfl⟩ := Option.map_eq_some_iff.mp hz
                exact k2 y hy
              · rw [List.length_append]
                have := hne (some b)
                omega
      · rintro ρ1 ⟨lz, dn, y1, y2, y3, y4, y5, y6, k1, k2, k3, k4, rfl⟩
        rw [Nat.sub_self, dmA_zero, List.append_nil] at k4
        walk_at "u"
        rw [← k4]
        exact q
abbrev s__law_margin : Stmt := topS 20
theorem sc__law_margin : FnScope ["corpus", "steps", "entry", "least", "greatest", "base", "slope", "end"] ["corpus", "steps", "entry"] (defScope s__law_margin) := ⟨rfl, rfl, rfl, by decide +kernel, rfl, by decide +kernel, by decide +kernel⟩
theorem ok__law_margin (c__law_demands : CalV P w K PO mg base 2 "_law_demands" sp_dem) (b_max : mg "max" = none) (F : At K mg "_law_margin" s__law_margin) : CalV P w K PO mg base 3 "_law_margin" sp_lmargin := by
  refine F.calV sc__law_margin (fun ds post h => ?_) (fun _ _ _ _ _ _ us hl => match us, hl with | [_, _, _], _ => rfl) (fun f cdv A outer s H E hr => ?_)
  · obtain ⟨ls, cs, n, e, c, rfl, _⟩ := h
    rfl
  refine ⟨_, _, (qb_cons (qs_set (i := 3) sc__law_margin.nd rfl (.inl rfl) (qm_of qe_int))
      (qb_cons (qs_set (i := 4) sc__law_margin.nd rfl (.inl rfl) (qm_of qe_non))
      (qb_cons (qs_for PassesOwn.never rfl (qi_list rfl (qe_new (qo_c rfl c__law_demands hr (by decide) (by rfl) (qa_cons (qv 0) (qa_cons (qv 1) (qa_cons (qv 2) qa_nil)))))) (qg_tup rfl rfl (qgs_cons (qg_name (i := 5) sc__law_margin.nd rfl (.inl rfl)) (qgs_cons (qg_name (i := 6) sc__law_margin.nd rfl (.inl rfl)) qgs_nil)))
      (qb_cons (qs_if (qt_cmp op_gt s2_B (qv 6) qe_int (nomark _)) (qb_one (qs_set (i := 3) sc__law_margin.nd rfl (.inl rfl) (qm_of (qe_bn (call_maxI rfl) sn_max (by rfl) b_max (by decide +kernel) (qa_cons (qv 3) (qa_cons (qe_neg (qe_op op_fdiv s2_I (qv 5) (qv 6))) qa_nil)))))) qb_nil)
      (qb_one (qs_if (qt_cmp op_lt s2_B (qv 6) qe_int (nomark _)) (qb_cons (qs_set (i := 7) sc__law_margin.nd rfl (.inl rfl) (qm_of (qe_op op_fdiv s2_I (qv 5) (qe_neg (qv 6)))))
      (qb_one (qs_if (qw (qw_or (qt_cmp op_isN2 s2_isN (qv 4) qe_non (nomark _)) (qw_or1 (qt_cmp op_lt s2_B (qv 7) (qv 4) (nomark _))))) (qb_one (qs_set (i := 4) sc__law_margin.nd rfl (.inl rfl) (qm_of (qv 7)))) qb_nil))) qb_nil))))
      (qb_one (qs_ret (qm_of (qe_tup (qa_cons (qv 3) (qa_cons (qv 4) qa_nil))))))))), fun ds post h => ?_⟩
  obtain ⟨ls, cs, n, e, c, rfl, hc, ok, hn, he, q⟩ := h
  refine en_is (ρ := [some (.sh (c)), some (.sh (.int (n : Nat))), some (.sh (.int (e : Nat))), none, none, none, none, none]) rfl ?_
  walk_at "u"
  obtain ⟨⟨t, own⟩, hco⟩ : ∃ z, cs[e]? = some z := ⟨_, List.getElem?_eq_getElem he⟩
  refine ⟨ls, cs, n, e, c, t, own, rfl, hc, ok, hn, hco, ?_⟩
  have hbd := dmA_bd (own := own) (e := e) n ok.ln
  have hln := dmA_len (own := own) (e := e) n ok.ln
  rw [mg_start ok hco] at q
  generalize dmA own e n (ln0 cs) = D at *
  walk_at "u"
  refine u_forT (xs := D) (f := dmV) (fun i ρ => ∃ y1 y2 y3, ρ = [some (.sh c), some (.sh (.int (n : Nat))), some (.sh (.int (e : Nat))), some (.sh (.int ((D.take i).foldl narL (0, none)).1)), some (.sh (oI ((D.take i).foldl narL (0, none)).2)), y1, y2, y3]) ⟨_, _, _, rfl⟩ ?_ ?_
  · rintro i z ρ1 hz ⟨y1, y2, y3, rfl⟩
    have hb := hbd z (List.mem_of_getElem? hz)
    rw [fold_take hz]
    generalize (D.take i).foldl narL (0, none) = s at *
    obtain ⟨l, g⟩ := s
    obtain ⟨ba, sl⟩ := z
    dsimp only at hb
    rw [show narL (l, g) (ba, sl) = nar (l, g) sl ba from rfl]
    walk_at "u"
    rcases Int.lt_trichotomy sl 0 with h | h | h
    · refine ite_f (decide_eq_false (by omega)) ?_
      walk_at "u"
      refine ite_t (decide_eq_true h) ?_
      walk_at "u"
      cases g with
      | none =>
        rw [show nar (l, none) sl ba = (l, some (ba / -sl)) by unfold nar; rw [if_neg (by omega), if_pos h]]
        rw [show oI (none : Option Int) = PV.non from rfl]
        walk_at "u"
        exact ⟨_, _, _, rfl⟩
      | some g =>
        rw [show nar (l, some g) sl ba = (l, if ba / -sl < g then some (ba / -sl) else some g) by unfold nar; rw [if_neg (by omega), if_pos h]]
        rw [show oI (some g) = PV.int g from rfl]
        walk_at "u"
        refine ite2 (fun e => ?_) (fun e => ?_)
        · have e := of_decide_eq_true e
          rw [if_pos e]
          walk_at "u"
          exact ⟨_, _, _, rfl⟩
        · have e := of_decide_eq_false e
          rw [if_neg e]
          walk_at "u"
          exact ⟨_, _, _, rfl⟩
    · subst h
      rw [nar_zero]
      refine ite_f (decide_eq_false (by dsimp only; omega)) ?_
      walk_at "u"
      refine ite_f (decide_eq_false (by dsimp only; omega)) ?_
      walk_at "u"
      exact ⟨_, _, _, rfl⟩
    · rw [show nar (l, g) sl ba = (max l (-(ba / sl)), g) by unfold nar; rw [if_pos h, if_neg (by omega)]]
      refine ite_t (decide_eq_true h) ?_
      walk_at "u"
      refine ite_f (decide_eq_false (by omega)) ?_
      walk_at "u"
      exact ⟨_, _, _, rfl⟩
  · rintro ρ1 ⟨y1, y2, y3, rfl⟩
    rw [List.take_length]
    walk_at "u"
    exact q
abbrev s__law_is : Stmt := topS 21
theorem sc__law_is : FnScope ["told", "due"] ["told", "due"] (defScope s__law_is) := ⟨rfl, rfl, rfl, by decide +kernel, rfl, by decide +kernel, by decide +kernel⟩
theorem ok__law_is (b_bool : mg "bool" = none) (b_int : mg "int" = none) (b_isinstance : mg "isinstance" = none) (b_len : mg "len" = none) (b_tuple : mg "tuple" = none) (F : At K mg "_law_is" s__law_is) : CalV P w K PO mg base 1 "_law_is" sp_is := by
  refine F.calV sc__law_is (fun ds post h => ?_) (fun _ _ _ _ _ _ us hl => match us, hl with | [_, _], _ => rfl) (fun f cdv A outer s H E hr => ?_)
  · obtain ⟨l, g, rfl, _⟩ := h
    rfl
  refine ⟨_, _, (qb_cons (qs_if (qw (qw_or (qt_not (qt_val (qe_bn (r := rIsi K) call_isi sn_isi (by rfl) b_isinstance (by decide +kernel) (qa_cons (qv 0) (qa_cons (qe_ty (n := "tuple") (by rfl) b_tuple (by decide +kernel)) qa_nil))))) (qw_or1 (qt_cmp op_neI s2_B (qe_b1 (r := zLenQ K) call_lenQ s1_len (by rfl) b_len PySem.boot_len (qq_t (qv 0))) qe_int (nomark _))))) (qb_one (qs_ret (qm_of qe_bl))) qb_nil)
      (qb_cons (qs_if (qw (qw_or (qt_not (qt_val (qe_bn (r := rIsi K) call_isi sn_isi (by rfl) b_isinstance (by decide +kernel) (qa_cons (qe_ix (r := rIxT K) ix_tup s2_ixT (qv 0) qe_int (fun _ _ => rfl)) (qa_cons (qe_ty (n := "int") (by rfl) b_int (by decide +kernel)) qa_nil))))) (qw_or (qt_val (qe_bn (r := rIsi K) call_isi sn_isi (by rfl) b_isinstance (by decide +kernel) (qa_cons (qe_ix (r := rIxT K) ix_tup s2_ixT (qv 0) qe_int (fun _ _ => rfl)) (qa_cons (qe_ty (n := "bool") (by rfl) b_bool (by decide +kernel)) qa_nil)))) (qw_or1 (qt_not (qt_cmp (r := rEqD K) (op_eqD hr.units) s2_eqD (qe_ix (r := rIxT K) ix_tup s2_ixT (qv 0) qe_int (fun _ _ => rfl)) (qe_ix (r := rIxT K) ix_tup s2_ixT (qv 1) qe_int (fun _ _ => rfl)) (nomark _))))))) (qb_one (qs_ret (qm_of qe_bl))) qb_nil)
      (qb_cons (qs_if (qt_cmp op_isN2 s2_isN (qe_ix (r := rIxT K) ix_tup s2_ixT (qv 1) qe_int (fun _ _ => rfl)) qe_non (nomark _)) (qb_one (qs_ret (qm_of (qe_cmp op_isN2 s2_isN (qe_ix (r := rIxT K) ix_tup s2_ixT (qv 0) qe_int (fun _ _ => rfl)) qe_non (nomark _))))) qb_nil)
      (qb_one (qs_ret (qm_of (qe_and (qe_bn (r := rIsi K) call_isi sn_isi (by rfl) b_isinstance (by decide +kernel) (qa_cons (qe_ix (r := rIxT K) ix_tup s2_ixT (qv 0) qe_int (fun _ _ => rfl)) (qa_cons (qe_ty (n := "int") (by rfl) b_int (by decide +kernel)) qa_nil))) (qe_and (qe_not (qe_bn (r := rIsi K) call_isi sn_isi (by rfl) b_isinstance (by decide +kernel) (qa_cons (qe_ix (r := rIxT K) ix_tup s2_ixT (qv 0) qe_int (fun _ _ => rfl)) (qa_cons (qe_ty (n := "bool") (by rfl) b_bool (by decide +kernel)) qa_nil)))) (qe_one (qe_cmp (r := rEqD K) (op_eqD hr.units) s2_eqD (qe_ix (r := rIxT K) ix_tup s2_ixT (qv 0) qe_int (fun _ _ => rfl)) (qe_ix (r := rIxT K) ix_tup s2_ixT (qv 1) qe_int (fun _ _ => rfl)) (nomark _))))))))))), fun ds post h => ?_⟩
  obtain ⟨l, g, rfl, q⟩ := h
  refine en_is (ρ := [some (.sh (.tup [.int l, oI g])), some (.sh (.tup [.int l, oI g]))]) rfl ?_
  walk_at "u"
  cases g with
  | none =>
    rw [show oI none = PV.non from rfl]
    walk_at "u"
    first | exact q | (rw [decide_eq_true rfl]; exact q)
  | some g =>
    rw [show oI (some g) = PV.int g from rfl]
    walk_at "u"
    first | exact q | (rw [decide_eq_true rfl]; exact q)
abbrev s__law_sure : Stmt := topS 22
theorem sc__law_sure : FnScope ["state", "letters", "one", "other", "first", "second", "corpus", "low"] ["state"] (defScope s__law_sure) := ⟨rfl, rfl, rfl, by decide +kernel, rfl, by decide +kernel, by decide +kernel⟩
theorem ok__law_sure (c__law_is : CalV P w K (POG 7) mg base 1 "_law_is" sp_is) (c__law_letters : CalV P w K (POG 7) mg base 2 "_law_letters" sp_letters) (c__law_pluck : CalV P w K (POG 7) mg base 1 "_law_pluck" sp_draw) (c_margin_of : CalV P w K (POG 7) mg base 3 "margin_of" sp_margin) (F : At K mg "_law_sure" s__law_sure) : CalV P w K (POG 7) mg base 5 "_law_sure" sp_yes := by
  refine F.calV sc__law_sure (fun ds post h => ?_) (fun _ _ _ _ _ _ us hl => match us, hl with | [_], _ => rfl) (fun f cdv A outer s H E hr => ?_)
  · obtain ⟨rfl, _⟩ := h
    rfl
  refine ⟨_, _, (qb_cons (qs_set (i := 1) sc__law_sure.nd rfl (.inl rfl) (qm_of (qe_new (qo_c rfl c__law_letters hr (by decide) (by rfl) (qa_cons (qv 0) (qa_cons qe_int qa_nil))))))
      (qb_cons (qs_set (i := 2) sc__law_sure.nd rfl (.inl rfl) (qm_of (qe_ix ix_S s2_ixS (qv 1) qe_int (fun _ _ => rfl))))
      (qb_cons (qs_set (i := 3) sc__law_sure.nd rfl (.inl rfl) (qm_of (qe_ix ix_S s2_ixS (qv 1) qe_int (fun _ _ => rfl))))
      (qb_cons (qs_set (i := 4) sc__law_sure.nd rfl (.inl rfl) (qm_of (qe_op op_sub s2_0 (qe_op op_pow s2_I qe_int qe_int) (qe_new (qo_c rfl c__law_pluck hr (by decide) (by rfl) (qa_cons (qv 0) (qa_cons qe_int qa_nil)))))))
      (qb_cons (qs_set (i := 5) sc__law_sure.nd rfl (.inl rfl) (qm_of (qe_op op_sub s2_0 (qe_op op_pow s2_I qe_int qe_int) (qe_new (qo_c rfl c__law_pluck hr (by decide) (by rfl) (qa_cons (qv 0) (qa_cons qe_int qa_nil)))))))
      (qb_cons (qs_set (i := 6) sc__law_sure.nd rfl (.inl rfl) (qm_of (qe_tup (qa_cons (qe_tup (qa_cons (qe_op op_addS s2_addS (qv 2) (qv 3)) (qa_cons (qv 4) qa_nil))) (qa_cons (qe_tup (qa_cons (qe_op op_addS s2_addS (qe_op op_addS s2_addS (qe_op op_addS s2_addS (qv 2) (qv 3)) (qv 2)) (qv 3)) (qa_cons (qv 5) qa_nil))) (qa_cons (qe_tup (qa_cons (qe_op op_mulS s2_mulS (qv 3) qe_int) (qa_cons (qe_op op_add s2_0 qe_int (qe_new (qo_c rfl c__law_pluck hr (by decide) (by rfl) (qa_cons (qv 0) (qa_cons qe_int qa_nil))))) qa_nil))) (qa_cons (qe_tup (qa_cons (qe_ix ix_S s2_ixS (qv 1) qe_int (fun _ _ => rfl)) (qa_cons qe_int qa_nil))) qa_nil)))))))
      (qb_cons (qs_if (qt_not (qt_val (qe_new (qo_c rfl c__law_is hr (by decide) (by rfl) (qa_cons (qe_new (qo_c rfl c_margin_of hr (by decide) (by rfl) (qa_cons (qv 1) (qa_cons (qv 6) (qa_cons qe_int (qa_cons qe_int qa_nil)))))) (qa_cons (qe_tup (qa_cons qe_int (qa_cons (qe_op op_fdiv s2_I (qe_op op_add s2_0 (qv 4) (qe_op op_mul s2_I qe_int (qv 5))) qe_int) qa_nil))) qa_nil)))))) (qb_one (qs_ret (qm_of qe_bl))) qb_nil)
      (qb_cons (qs_if (qw (qw_or (qt_not (qt_val (qe_new (qo_c rfl c__law_is hr (by decide) (by rfl) (qa_cons (qe_new (qo_c rfl c_margin_of hr (by decide) (by rfl) (qa_cons (qv 1) (qa_cons (qv 6) (qa_cons qe_int (qa_cons qe_int qa_nil)))))) (qa_cons (qe_tup (qa_cons qe_int (qa_cons qe_non qa_nil))) qa_nil)))))) (qw_or1 (qt_not (qt_val (qe_new (qo_c rfl c__law_is hr (by decide) (by rfl) (qa_cons (qe_new (qo_c rfl c_margin_of hr (by decide) (by rfl) (qa_cons (qv 1) (qa_cons (qv 6) (qa_cons qe_int (qa_cons qe_int qa_nil)))))) (qa_cons (qe_tup (qa_cons qe_int (qa_cons qe_non qa_nil))) qa_nil))))))))) (qb_one (qs_ret (qm_of qe_bl))) qb_nil)
      (qb_cons (qs_set (i := 7) sc__law_sure.nd rfl (.inl rfl) (qm_of (qe_new (qo_c rfl c__law_pluck hr (by decide) (by rfl) (qa_cons (qv 0) (qa_cons qe_int qa_nil))))))
      (qb_cons (qs_set (i := 6) sc__law_sure.nd rfl (.inl rfl) (qm_of (qe_tup (qa_cons (qe_tup (qa_cons (qe_op op_addS s2_addS (qv 2) (qv 3)) (qa_cons (qv 7) qa_nil))) (qa_cons (qe_tup (qa_cons (qe_op op_mulS s2_mulS (qv 3) qe_int) (qa_cons (qe_op op_add s2_0 (qe_op op_add s2_0 (qv 7) qe_int) (qe_new (qo_c rfl c__law_pluck hr (by decide) (by rfl) (qa_cons (qv 0) (qa_cons qe_int qa_nil))))) qa_nil))) qa_nil)))))
      (qb_cons (qs_if (qt_not (qt_val (qe_new (qo_c rfl c__law_is hr (by decide) (by rfl) (qa_cons (qe_new (qo_c rfl c_margin_of hr (by decide) (by rfl) (qa_cons (qv 1) (qa_cons (qv 6) (qa_cons qe_int (qa_cons qe_int qa_nil)))))) (qa_cons (qe_tup (qa_cons (qe_op op_add s2_0 (qv 7) qe_int) (qa_cons qe_non qa_nil))) qa_nil)))))) (qb_one (qs_ret (qm_of qe_bl))) qb_nil)
      (qb_cons (qs_if (qt_not (qt_val (qe_new (qo_c rfl c__law_is hr (by decide) (by rfl) (qa_cons (qe_new (qo_c rfl c_margin_of hr (by decide) (by rfl) (qa_cons (qv 1) (qa_cons (qv 6) (qa_cons qe_int (qa_cons qe_int qa_nil)))))) (qa_cons (qe_tup (qa_cons qe_int (qa_cons (qe_op op_sub s2_0 (qe_ix (r := rIxT K) ix_tup s2_ixT (qe_ix (r := rIxT K) ix_tup s2_ixT (qv 6) qe_int (fun _ _ => rfl)) qe_int (fun _ _ => rfl)) qe_int) qa_nil))) qa_nil)))))) (qb_one (qs_ret (qm_of qe_bl))) qb_nil)
      (qb_cons (qs_set (i := 6) sc__law_sure.nd rfl (.inl rfl) (qm_of (qe_tup (qa_cons (qe_tup (qa_cons (qe_op op_addS s2_addS (qv 2) (qv 3)) (qa_cons qe_int qa_nil))) (qa_cons (qe_tup (qa_cons (qv 3) (qa_cons qe_int qa_nil))) qa_nil)))))
      (qb_one (qs_ret (qm_of (qe_and (qe_new (qo_c rfl c__law_is hr (by decide) (by rfl) (qa_cons (qe_new (qo_c rfl c_margin_of hr (by decide) (by rfl) (qa_cons (qv 1) (qa_cons (qv 6) (qa_cons qe_int (qa_cons qe_int qa_nil)))))) (qa_cons (qe_tup (qa_cons qe_int (qa_cons qe_int qa_nil))) qa_nil)))) (qe_one (qe_new (qo_c rfl c__law_is hr (by decide) (by rfl) (qa_cons (qe_new (qo_c rfl c_margin_of hr (by decide) (by rfl) (qa_cons (qv 1) (qa_cons (qv 6) (qa_cons qe_int (qa_cons qe_int qa_nil)))))) (qa_cons (qe_tup (qa_cons qe_int (qa_cons qe_non qa_nil))) qa_nil)))))))))))))))))))))), fun ds post h => ?_⟩
  obtain ⟨rfl, q⟩ := h
  refine en_is (ρ := [some (.sh (.pool)), none, none, none, none, none, none, none]) rfl ?_
  walk_at "u"
  refine ⟨3, rfl, by omega, by omega, fun ls hls hl3 => ?_⟩
  obtain ⟨a, b, c, rfl⟩ : ∃ a b c, ls = [a, b, c] := by
    match ls, hl3 with
    | [a, b, c], _ => exact ⟨a, b, c, rfl⟩
  have hab : a < b := by have := hls.asc; simp at this; omega
  have hck := hls.ck
  have hmem : a ∈ [a, b, c] ∧ b ∈ [a, b, c] ∧ c ∈ [a, b, c] := by simp
  walk_at "u"
  simp only [show (10 : Int) ^ Int.toNat 9 = 1000000000 from rfl]
  refine u_draw (by omega) fun v1 hv1 => ?_
  walk_at "u"
  simp only [show (10 : Int) ^ Int.toNat 9 = 1000000000 from rfl]
  refine u_draw (by omega) fun v2 hv2 => ?_
  walk_at "u"
  refine u_mulS (by omega) (by omega) (by simp) ?_
  walk_at "u"
  refine u_draw (by omega) fun v3 hv3 => ?_
  rw [show rep 3 [b] = [b, b, b] from rfl]
  have ok1 : CoOk [a, b, c] (co1 a b c (1000000000 - (v1 : Int)) (1000000000 - (v2 : Int)) (1 + (v3 : Int)) 4) := ⟨hck, by simp, fun z hz => by
    simp only [List.mem_cons, List.not_mem_nil, or_false] at hz
    rcases hz with rfl | rfl | rfl | rfl <;> simp⟩
  walk_at "u"
  refine ⟨_, [a, b, c], _, 1, 2, rfl, ok1, by omega, ?_⟩
  rw [sure1 hab (by omega) (by omega) (by omega)]
  walk_at "u"
  refine ⟨0, some _, rfl, ?_⟩
  walk_at "u"
  refine ⟨_, [a, b, c], _, 1, 3, rfl, ok1, by omega, ?_⟩
  rw [sure2 hab (by omega) (by omega) (by omega)]
  walk_at "u"
  refine ⟨0, none, rfl, ?_⟩
  walk_at "u"
  refine ⟨_, [a, b, c], _, 0, 2, rfl, ok1, by omega, ?_⟩
  rw [mgP_zero]
  walk_at "u"
  refine ⟨0, none, rfl, ?_⟩
  walk_at "u"
  refine u_draw (by omega) fun v4 hv4 => ?_
  walk_at "u"
  refine u_mulS (by omega) (by omega) (by simp) ?_
  walk_at "u"
  refine u_draw (by omega) fun v5 hv5 => ?_
  rw [show rep 2 [b] = [b, b] from rfl]
  have ok2 : CoOk [a, b, c] (co2 a b (v4 : Int) ((v4 : Int) + 1 + (v5 : Int))) := ⟨hck, by simp, fun z hz => by
    simp only [List.mem_cons, List.not_mem_nil, or_false] at hz
    rcases hz with rfl | rfl <;> simp⟩
  walk_at "u"
  refine ⟨_, [a, b, c], _, 1, 1, rfl, ok2, by omega, ?_⟩
  rw [sure4 hab (by omega) (by omega)]
  walk_at "u"
  refine ⟨_, none, rfl, ?_⟩
  walk_at "u"
  refine ⟨_, [a, b, c], _, 1, 0, rfl, ok2, by omega, ?_⟩
  rw [sure5 hab (by omega) (by omega)]
  walk_at "u"
  refine ⟨0, some _, rfl, ?_⟩
  have ok3 : CoOk [a, b, c] (co3 a b) := ⟨hck, by simp, fun z hz => by
    simp only [List.mem_cons, List.not_mem_nil, or_false] at hz
    rcases hz with rfl | rfl <;> simp⟩
  walk_at "u"
  refine ⟨_, [a, b, c], _, 2, 0, rfl, ok3, by omega, ?_⟩
  rw [sure6]
  walk_at "u"
  refine ⟨0, some 0, rfl, ?_⟩
  walk_at "u"
  refine ⟨_, [a, b, c], _, 2, 1, rfl, ok3, by omega, ?_⟩
  rw [sure7]
  walk_at "u"
  refine ⟨0, none, rfl, ?_⟩
  walk_at "u"
  exact q
abbrev s__law_wide : Stmt := topS 23
theorem sc__law_wide : FnScope ["state", "letters", "rows", "k", "code", "entry", "power", "place"] ["state", "letters"] (defScope s__law_wide) := ⟨rfl, rfl, rfl, by decide +kernel, rfl, by decide +kernel, by decide +kernel⟩
theorem ok__law_wide (c__law_is : CalV P w K (POG 7) mg base 1 "_law_is" sp_is) (c__law_margin : CalV P w K (POG 7) mg base 3 "_law_margin" sp_lmargin) (c__law_pluck : CalV P w K (POG 7) mg base 1 "_law_pluck" sp_draw) (c_margin_of : CalV P w K (POG 7) mg base 3 "margin_of" sp_margin) (b_len : mg "len" = none) (b_range : mg "range" = none) (b_tuple : mg "tuple" = none) (F : At K mg "_law_wide" s__law_wide) : CalV P w K (POG 7) mg base 5 "_law_wide" sp_wide := by
  refine F.calV sc__law_wide (fun ds post h => ?_) (fun _ _ _ _ _ _ us hl => match us, hl with | [_, _], _ => rfl) (fun f cdv A outer s H E hr => ?_)
  · obtain ⟨ls, rfl, _⟩ := h
    rfl
  refine ⟨_, _, (qb_cons (qs_set (i := 2) sc__law_wide.nd rfl (.inl rfl) (qm_new (qo_lst qa_nil)))
      (qb_cons (qs_for PassesOwn.never rfl (qi_r1 (by rfl) b_range (qa_cons qe_int qa_nil)) (qg_name (i := 3) sc__law_wide.nd rfl (.inr rfl))
      (qb_cons (qs_set (i := 4) sc__law_wide.nd rfl (.inl rfl) (qm_of (qe_op op_mulS s2_mulS (qe_ix ix_S s2_ixS (qv 1) qe_int (fun _ _ => rfl)) (qe_op op_add s2_0 qe_int (qv 3)))))
      (qb_cut (qs_if (qt_cmp op_gt s2_B (qe_b1 call_lenS s1_lenS (by rfl) b_len PySem.boot_len (qv 1)) qe_int (nomark _)) (qb_cons (qs_set (i := 4) sc__law_wide.nd rfl (.inl rfl) (qm_of (qe_m1 (r := zJoin0 K) PySem.F.slot_str_join PySem.F.type_str_join mt_join0 sm_join0 (qe_str [] (by decide +kernel) (by decide)) (qq_l (ql_new (qo_lc rfl sc__law_wide.nd (own := [("power", 6)]) (g := gName 6) (q := gpN 6) (ws := [6]) (tt := tYes) (pt := pYes) (qic_list rfl (ql_new (qo_lst (qa_cons qe_int (qa_cons qe_int (qa_cons qe_int (qa_cons qe_int (qa_cons qe_int (qa_cons qe_int qa_nil))))))))) (blkOk_by (N := ["state", "letters", "rows", "k", "code", "entry", "power", "place"]) (sc := defScope s__law_wide) (by decide +kernel)) (fun _ _ _ _ _ => (qg_name (i := 6) sc__law_wide.nd rfl (.inl rfl))) (fun _ _ _ _ _ => qts_nil) (fun _ _ _ _ _ => (qe_ix ix_S s2_ixS (qv 1) (qe_op op_mod s2_I (qe_op op_fdiv s2_I (qv 3) (qv 6)) qe_int) (fun _ _ => rfl))) (by decide)))))))
      (qb_one (qs_set (i := 4) sc__law_wide.nd rfl (.inl rfl) (qm_of (qe_op op_addS s2_addS (qv 4) (qe_m1 (r := zJoin0 K) PySem.F.slot_str_join PySem.F.type_str_join mt_join0 sm_join0 (qe_str [] (by decide +kernel) (by decide)) (qq_l (ql_new (qo_lc rfl sc__law_wide.nd (own := [("place", 7)]) (g := gName 7) (q := gpN 7) (ws := [7]) (tt := tYes) (pt := pYes) (qic_of (qi_r1 (by rfl) b_range (qa_cons qe_int qa_nil))) (blkOk_by (N := ["state", "letters", "rows", "k", "code", "entry", "power", "place"]) (sc := defScope s__law_wide) (by decide +kernel)) (fun _ _ _ _ _ => (qg_name (i := 7) sc__law_wide.nd rfl (.inl rfl))) (fun _ _ _ _ _ => qts_nil) (fun _ _ _ _ _ => (qe_ix ix_S s2_ixS (qv 1) (qe_new (qo_c rfl c__law_pluck hr (by decide) (by rfl) (qa_cons (qv 0) (qa_cons (qe_b1 call_lenS s1_lenS (by rfl) b_len PySem.boot_len (qv 1)) qa_nil)))) (fun _ _ => rfl))) (by decide)))))))))) qb_nil)
      (qb_one (qs_app (i := 2) rfl (qm_of (qe_tup (qa_cons (qv 4) (qa_cons (qe_ix (r := rIxL K) ix_list s2_ixL (ql_new (qo_lst (qa_cons (qe_op op_pow s2_I qe_int qe_int) (qa_cons (qe_op op_sub s2_0 (qe_op op_pow s2_I qe_int qe_int) (qv 3)) (qa_cons (qe_new (qo_c rfl c__law_pluck hr (by decide) (by rfl) (qa_cons (qv 0) (qa_cons (qe_op op_add s2_0 (qe_op op_pow s2_I qe_int qe_int) qe_int) qa_nil)))) qa_nil))))) (qe_new (qo_c rfl c__law_pluck hr (by decide) (by rfl) (qa_cons (qv 0) (qa_cons qe_int qa_nil)))) (fun _ _ => rfl)) qa_nil)))) (fun h => pe_bm PySem.F.plainAttrs_list PySem.F.slot_list_append PySem.F.type_list_append mt_append (pv 2) (pa_cons h pa_nil)))))))
      (qb_cons (qs_set (i := 5) sc__law_wide.nd rfl (.inl rfl) (qm_of (qe_new (qo_c rfl c__law_pluck hr (by decide) (by rfl) (qa_cons (qv 0) (qa_cons qe_int qa_nil))))))
      (qb_one (qs_frz 2 (qs_ret (qm_new (qo_c rfl c__law_is hr (by decide) (by rfl) (qa_cons (qe_new (qo_c rfl c_margin_of hr (by decide) (by rfl) (qa_cons (qv 1) (qa_cons (qe_t1 (r := zTupL K) call_tupL s1_tupL (by rfl) b_tuple (by decide +kernel) (qvl 2)) (qa_cons qe_int (qa_cons (qv 5) qa_nil)))))) (qa_cons (qe_new (qo_c rfl c__law_margin hr (by decide) (by rfl) (qa_cons (qv 2) (qa_cons qe_int (qa_cons (qv 5) qa_nil))))) qa_nil)))))))))), fun ds post h => ?_⟩
  obtain ⟨ls, rfl, ok, hpos, q⟩ := h
  refine en_is (ρ := [some (.sh (.pool)), some (.sh (.str ls)), none, none, none, none, none, none]) rfl ?_
  walk_at "u"
  have hle := ok.le
  have hlo := ok.lo
  obtain ⟨c0, hc0⟩ : ∃ c, ls[0]? = some c := ⟨_, List.getElem?_eq_getElem (by omega)⟩
  have hcm := List.mem_of_getElem? hc0
  refine u_forN (n := 40) (fun i ρ => ∃ (cs : List (Txt × Int)) (y1 y2 : Option Vl), cs.length = i ∧ (∀ c ∈ cs, c.1.length ≤ 80 ∧ ∀ a ∈ c.1, a ∈ ls) ∧ ρ = [some (.sh .pool), some (.sh (.str ls)), some (.ol (cs.map cP)), y1, y2, none, none, none]) ⟨[], _, _, rfl, by simp, rfl⟩ ?_ ?_
  · rintro i ρ1 hi ⟨cs, y1, y2, k1, k2, rfl⟩
    have hcl : (cs.map cP).length = cs.length := List.length_map _
    walk_at "u"
    refine u_mulS (by omega) (by omega) (by simp; omega) ?_
    have hrl : (rep (41 + (i : Int)) [c0]).length ≤ 80 := by rw [rep_len]; simp; omega
    have hrm : ∀ x ∈ rep (41 + (i : Int)) [c0], x ∈ ls := fun x hx => by rw [List.mem_singleton.mp (rep_mem hx)]; exact hcm
    generalize rep (41 + (i : Int)) [c0] = t0 at *
    refine u_cut (fun ρ => ∃ (t : Txt), (t.length ≤ 80 ∧ ∀ a ∈ t, a ∈ ls) ∧ ρ = [some (.sh .pool), some (.sh (.str ls)), some (.ol (cs.map cP)), some (.sh (.int (i : Nat))), some (.sh (.str t)), none, none, none]) ?_ ?_
    · walk_at "u"
      refine ite2 (fun h => ?_) (fun h => ?_)
      · have h := of_decide_eq_true h
        walk_at "u"
        rw [show [PV.int 32, .int 16, .int 8, .int 4, .int 2, .int 1] = ([32, 16, 8, 4, 2, 1] : List Int).map PV.int from rfl]
        refine u_lcAll (fun c => c ∈ ls) (fun c => .str [c]) (fun j d R hd hR => ?_) fun bs hbl hbs => ?_
        · obtain ⟨x, hx, rfl⟩ : ∃ x : Int, (0 < x ∧ x ≤ 32) ∧ d = .int x := by
            rw [List.getElem?_map] at hd
            obtain ⟨x, hx, rfl⟩ := Option.map_eq_some_iff.mp hd
            exact ⟨x, (show ∀ x ∈ ([32, 16, 8, 4, 2, 1] : List Int), 0 < x ∧ x ≤ 32 by decide) x (List.mem_of_getElem? hx), rfl⟩
          walk_at "u"
          obtain ⟨v, hv⟩ := Int.eq_ofNat_of_zero_le (Int.emod_nonneg ((i : Int) / x) (show (2 : Int) ≠ 0 by decide))
          have hv2 := Int.emod_lt_of_pos ((i : Int) / x) (show (0 : Int) < 2 by decide)
          rw [hv] at hv2 ⊢
          obtain ⟨c, hc⟩ : ∃ c, ls[v]? = some c := ⟨_, List.getElem?_eq_getElem (by omega)⟩
          walk_at "u"
          exact hR c (List.mem_of_getElem? hc)
        rw [show bs.map (fun c => PV.str [c]) = chrs bs from rfl]
        simp only [List.length_map, List.length_cons, List.length_nil] at hbl
        walk_at "u"
        refine join_chrs (by omega) ?_
        walk_at "u"
        refine u_lcAll (fun c => c ∈ ls) (fun c => .str [c]) (fun j d R hd hR => ?_) fun bs2 hbl2 hbs2 => ?_
        · walk_at "u"
          refine u_draw (by omega) fun v4 hv4 => ?_
          obtain ⟨c, hc⟩ : ∃ c, ls[v4]? = some c := ⟨_, List.getElem?_eq_getElem (by omega)⟩
          walk_at "u"
          exact hR c (List.mem_of_getElem? hc)
        rw [show bs2.map (fun c => PV.str [c]) = chrs bs2 from rfl]
        rw [rngV_len] at hbl2
        have hb4 : bs2.length = 74 := by omega
        walk_at "u"
        refine join_chrs (by omega) ?_
        walk_at "u"
        refine ⟨_, ⟨by rw [List.length_append]; omega, fun a ha => ?_⟩, rfl⟩
        rcases List.mem_append.mp ha with ha | ha
        · exact hbs a ha
        · exact hbs2 a ha
      · walk_at "u"
        exact ⟨_, ⟨hrl, hrm⟩, rfl⟩
    · rintro ρ2 ⟨t, ht, rfl⟩
      walk_at "u"
      simp only [show (10 : Int) ^ Int.toNat 9 = 1000000000 from rfl]
      refine u_draw (by omega) fun v1 hv1 => ?_
      walk_at "u"
      refine u_draw (by omega) fun v2 hv2 => ?_
      obtain ⟨n, hn⟩ : ∃ n, atI [PV.int 1000000000, .int (1000000000 - (i : Int)), .int (v1 : Int)] (v2 : Int) = some (.int n) := by
        have : v2 = 0 ∨ v2 = 1 ∨ v2 = 2 := by omega
        rcases this with rfl | rfl | rfl <;> exact ⟨_, rfl⟩
      refine u_ix hn ?_
      walk_at "u"
      rw [show cs.map cP ++ [PV.tup [.str t, .int n]] = (cs ++ [(t, n)]).map cP by rw [List.map_append]; rfl]
      refine ⟨cs ++ [(t, n)], _, _, by rw [List.length_append]; simp; omega, fun c hc => ?_, rfl⟩
      rcases List.mem_append.mp hc with hc | hc
      · exact k2 c hc
      · rw [List.mem_singleton.mp hc]; exact ht
  · rintro ρ1 ⟨cs, y1, y2, k1, k2, rfl⟩
    have hcl : (cs.map cP).length = cs.length := List.length_map _
    have cok : CoOk ls cs := ⟨ok.ck, by omega, k2⟩
    walk_at "u"
    refine u_draw (by omega) fun v1 hv1 => ?_
    walk_at "u"
    refine ⟨_, ls, cs, 16, v1, rfl, cok, by omega, ?_⟩
    walk_at "u"
    refine ⟨ls, cs, 16, v1, _, rfl, .inr rfl, cok, by omega, by omega, ?_⟩
    walk_at "u"
    refine ⟨_, _, rfl, ?_⟩
    walk_at "u"
    exact q
abbrev s_law : Stmt := topS 24
theorem sc_law : FnScope ["script", "state", "k", "letters", "corpus", "steps", "turn", "entry"] ["script"] (defScope s_law) := ⟨rfl, rfl, rfl, by decide +kernel, rfl, by decide +kernel, by decide +kernel⟩
theorem ok_law {f : Addr} {fd : FuncData} (F : Fun K "law" "law" s_law f fd) (c__law_field : CalV P w K noPool mg base 2 "_law_field" sp_law_pool4) (c__law_pluck : CalV P w K (POG 7) mg base 1 "_law_pluck" sp_draw) (c__law_trend : CalV P w K (POG 7) mg base 2 "_law_trend" sp_bias) (c__law_letters : CalV P w K (POG 7) mg base 2 "_law_letters" sp_letters) (c__law_corpus : CalV P w K (POG 7) mg base 4 "_law_corpus" sp_corpus) (c_margin_of : CalV P w K (POG 7) mg base 3 "margin_of" sp_margin) (c__law_margin : CalV P w K (POG 7) mg base 3 "_law_margin" sp_lmargin) (c__law_is : CalV P w K (POG 7) mg base 1 "_law_is" sp_is) (c__law_sure : CalV P w K (POG 7) mg base 5 "_law_sure" sp_yes) (c__law_wide : CalV P w K (POG 7) mg base 5 "_law_wide" sp_wide) (b_range : mg "range" = none) (b_len : mg "len" = none) : FnOk P w K mg base CX0 6 f fd ["script"] (spLawV K) := by
  refine law_ok (PO := POG 7) (spP := sp_law_pool4) (shape := shapeG 7) (n := 6) F sc_law rfl rfl (fun ns h => ⟨ns, rfl, h, fun ds' hs => ⟨ds', rfl, hs⟩⟩) (fun G H a xs ds hs ha hr sg hn => mk_POG 7 K G H a xs ds hs ha hr sg hn) (fun cdv A outer s H E hr => ⟨?_, ?_⟩)
  · exact (ps_set (i := 1) sc_law.nd rfl (.inl rfl) (pe_c c__law_field hr (by decide) (by rfl) (pa_cons (pv 0) pa_nil)))
  refine ⟨_, _, (qb_cons (qs_for PassesOwn.never rfl (qi_r1 (by rfl) b_range (qa_cons qe_int qa_nil)) (qg_name (i := 2) sc_law.nd rfl (.inl rfl))
      (qb_cons (qs_set (i := 3) sc_law.nd rfl (.inl rfl) (qm_of (qe_new (qo_c rfl c__law_letters hr (by decide) (by rfl) (qa_cons (qv 1) (qa_cons (qe_op op_add s2_0 qe_int (qe_new (qo_c rfl c__law_trend hr (by decide) (by rfl) (qa_cons (qv 1) (qa_cons qe_int (qa_cons (qe_ix (r := rIxL K) ix_list s2_ixL (ql_new (qo_lst (qa_cons qe_int (qa_cons qe_int (qa_cons qe_int (qa_cons qe_int qa_nil)))))) (qv 2) (fun _ _ => rfl)) qa_nil)))))) qa_nil))))))
      (qb_cons (qs_set (i := 4) sc_law.nd rfl (.inl rfl) (qm_of (qe_new (qo_c rfl c__law_corpus hr (by decide) (by rfl) (qa_cons (qv 1) (qa_cons (qv 3) qa_nil))))))
      (qb_cons (qs_set (i := 5) sc_law.nd rfl (.inl rfl) (qm_of (qe_new (qo_c rfl c__law_trend hr (by decide) (by rfl) (qa_cons (qv 1) (qa_cons qe_int (qa_cons qe_int qa_nil)))))))
      (qb_one (qs_for PassesOwn.never rfl (qi_r1 (by rfl) b_range (qa_cons qe_int qa_nil)) (qg_name (i := 6) sc_law.nd rfl (.inl rfl))
      (qb_cons (qs_set (i := 7) sc_law.nd rfl (.inl rfl) (qm_of (qe_new (qo_c rfl c__law_pluck hr (by decide) (by rfl) (qa_cons (qv 1) (qa_cons (qe_b1 (r := zLenQ K) call_lenQ s1_len (by rfl) b_len PySem.boot_len (qq_t (qv 4))) qa_nil))))))
      (qb_one (qs_if (qt_not (qt_val (qe_new (qo_c rfl c__law_is hr (by decide) (by rfl) (qa_cons (qe_new (qo_c rfl c_margin_of hr (by decide) (by rfl) (qa_cons (qv 3) (qa_cons (qv 4) (qa_cons (qv 5) (qa_cons (qv 7) qa_nil)))))) (qa_cons (qe_new (qo_c rfl c__law_margin hr (by decide) (by rfl) (qa_cons (qv 4) (qa_cons (qv 5) (qa_cons (qv 7) qa_nil))))) qa_nil)))))) (qb_one (qs_ret (qm_of qe_bl))) qb_nil)))))))))
      (qb_cons (qs_if (qt_not (qt_val (qe_new (qo_c rfl c__law_sure hr (by decide) (by rfl) (qa_cons (qv 1) qa_nil))))) (qb_one (qs_ret (qm_of qe_bl))) qb_nil)
      (qb_cons (qs_set (i := 3) sc_law.nd rfl (.inl rfl) (qm_of (qe_new (qo_c rfl c__law_letters hr (by decide) (by rfl) (qa_cons (qv 1) (qa_cons (qe_op op_add s2_0 qe_int (qe_new (qo_c rfl c__law_pluck hr (by decide) (by rfl) (qa_cons (qv 1) (qa_cons qe_int qa_nil))))) qa_nil))))))
      (qb_one (qs_ret (qm_of (qe_or (qe_cmp op_gt s2_B (qe_new (qo_c rfl c__law_pluck hr (by decide) (by rfl) (qa_cons (qv 1) (qa_cons qe_int qa_nil)))) qe_int (nomark _)) (qe_one (qe_new (qo_c rfl c__law_wide hr (by decide) (by rfl) (qa_cons (qv 1) (qa_cons (qv 3) qa_nil)))))))))))), ?_⟩
  refine en_is (ρ := [none, some (.sh .pool), none, none, none, none, none, none]) rfl ?_
  walk_at "u"
  refine u_forN (n := 4) (fun i ρ => ∃ (y2 y3 y4 y5 y6 y7 : Option Vl), ρ = [none, some (.sh .pool), y2, y3, y4, y5, y6, y7]) ⟨_, _, _, _, _, _, rfl⟩ ?_ ?_
  · rintro i ρ1 hi ⟨y2, y3, y4, y5, y6, y7, rfl⟩
    obtain ⟨mm, hmm, hmr⟩ : ∃ mm : Nat, atI [PV.int 2, .int 3, .int 3, .int 5] (i : Int) = some (.int (mm : Nat)) ∧ 1 ≤ mm ∧ mm ≤ 5 := by
      have : i = 0 ∨ i = 1 ∨ i = 2 ∨ i = 3 := by omega
      rcases this with rfl | rfl | rfl | rfl
      · exact ⟨2, rfl, by decide, by decide⟩
      · exact ⟨3, rfl, by decide, by decide⟩
      · exact ⟨3, rfl, by decide, by decide⟩
      · exact ⟨5, rfl, by decide, by decide⟩
    walk_at "u"
    refine u_ix hmm ?_
    walk_at "u"
    refine u_bias (k := 3) (by omega) (by omega) fun v hv => ?_
    walk_at "u"
    refine ⟨1 + v, by rw [Int.natCast_add]; rfl, by omega, by omega, fun ls hls hll => ?_⟩
    walk_at "u"
    refine ⟨ls, rfl, hls, by omega, fun cs hcs hc1 hc7 => ?_⟩
    have hcl : (cs.map cP).length = cs.length := List.length_map _
    walk_at "u"
    refine u_bias (k := 4) (by omega) (by omega) fun st hst => ?_
    walk_at "u"
    refine u_forN (n := 2) (fun j ρ => ∃ (y6 y7 : Option Vl), ρ = [none, some (.sh .pool), some (.sh (.int (i : Nat))), some (.sh (.str ls)), some (.sh (coP cs)), some (.sh (.int (st : Nat))), y6, y7]) ⟨_, _, rfl⟩ ?_ ?_
    · rintro j ρ2 hj ⟨y6, y7, rfl⟩
      walk_at "u"
      refine u_draw (by omega) fun e he => ?_
      walk_at "u"
      refine ⟨ls, ls, cs, st, e, rfl, hcs, by omega, ?_⟩
      walk_at "u"
      refine ⟨ls, cs, st, e, _, rfl, .inl rfl, hcs, by omega, by omega, ?_⟩
      walk_at "u"
      refine ⟨_, _, rfl, ?_⟩
      walk_at "u"
      exact ⟨_, _, rfl⟩
    · rintro ρ2 ⟨y6, y7, rfl⟩
      walk_at "u"
      exact ⟨_, _, _, _, _, _, rfl⟩
  · rintro ρ1 ⟨y2, y3, y4, y5, y6, y7, rfl⟩
    walk_at "u"
    refine ⟨rfl, ?_⟩
    walk_at "u"
    refine u_draw (by omega) fun v hv => ?_
    walk_at "u"
    refine ⟨1 + v, by rw [Int.natCast_add]; rfl, by omega, by omega, fun ls hls hll => ?_⟩
    walk_at "u"
    refine u_draw (by omega) fun v2 hv2 => ?_
    walk_at "u"
    refine ite2 (fun _ => ?_) (fun _ => ?_)
    · rfl
    · walk_at "u"
      refine ⟨ls, rfl, hls, by omega, ?_⟩
      rfl
theorem obj_ex_Margin {K : PySem.W.Frag} {mg : Str → Option Value} {C_Margin : Addr} (h0 : ObC K mg "Margin" C_Margin ["least", "greatest"]) (h1 : IAt K C_Margin "Margin.__init__" s_Margin_init) (h2 : MAt K C_Margin "narrow" "Margin.narrow" s_Margin_narrow) : ∃ C_Margin : Addr, (ObC K mg "Margin" C_Margin ["least", "greatest"]) ∧ (IAt K C_Margin "Margin.__init__" s_Margin_init) ∧ (MAt K C_Margin "narrow" "Margin.narrow" s_Margin_narrow) := ⟨_, h0, h1, h2⟩
end
end My
open PySem PySem.W PyProof.Rows
set_option maxHeartbeats 0 in
theorem PySem.Challenge.cw_seamsight_k24_margins_holds : PySem.Challenge.rw_seamsight_k24_margins.Holds := by
  w_on; o_law; k_head; (case hw => w_witness2)
  k_fill
  refine L2.walk_of (l := PySem.Challenge.rw_seamsight_k24_margins) (n := 63) (k := 6) (x := "script") (CX := fun _ => L2.CX0) (sp := fun w => My.spLawV _) rfl (by decide) rfl ⟨rfl, by decide, by decide⟩ (fun w h Y => PySem.W.kIn_of Y) ?F (fun _ _ a ns hl _ hS => ⟨a, ns, rfl, hS, hl, fun _ => rfl⟩) (fun _ _ _ _ _ h => h)
  case F =>
    intro w mg fa h KX G hmg
    change mg "law" = some (.ref fa) at hmg
    have b_bool : mg "bool" = none := by
      refine PySem.W.mg_none_of KX G ?_
      k_is
    have b_enumerate : mg "enumerate" = none := by
      refine PySem.W.mg_none_of KX G ?_
      k_is
    have b_int : mg "int" = none := by
      refine PySem.W.mg_none_of KX G ?_
      k_is
    have b_isinstance : mg "isinstance" = none := by
      refine PySem.W.mg_none_of KX G ?_
      k_is
    have b_len : mg "len" = none := by
      refine PySem.W.mg_none_of KX G ?_
      k_is
    have b_list : mg "list" = none := by
      refine PySem.W.mg_none_of KX G ?_
      k_is
    have b_max : mg "max" = none := by
      refine PySem.W.mg_none_of KX G ?_
      k_is
    have b_range : mg "range" = none := by
      refine PySem.W.mg_none_of KX G ?_
      k_is
    have b_set : mg "set" = none := by
      refine PySem.W.mg_none_of KX G ?_
      k_is
    have b_sorted : mg "sorted" = none := by
      refine PySem.W.mg_none_of KX G ?_
      k_is
    have b_tuple : mg "tuple" = none := by
      refine PySem.W.mg_none_of KX G ?_
      k_is
    have b_zip : mg "zip" = none := by
      refine PySem.W.mg_none_of KX G ?_
      k_is
    have OX_Margin : ∃ C_Margin : Addr, (My.ObC (My.kOf KX) mg "Margin" C_Margin ["least", "greatest"]) ∧ (My.IAt (My.kOf KX) C_Margin "Margin.__init__" My.s_Margin_init) ∧ (My.MAt (My.kOf KX) C_Margin "narrow" "Margin.narrow" My.s_Margin_narrow) := by
      unfold My.kOf
      refine' My.obj_ex_Margin (My.obj_at KX G ?aC ?pg ?hd ?po ?sa ?no) (My.iat_mk ?m0mk ?m0a ?m0n ?m0kC ?m0l ?m0c ?m0k) (My.mat_mk ?m1a ?m1n ?m1k ?m1l ?m1c)
      (case aC => k_is)
      (case pg => k_is)
      (case hd => k_is)
      (case po => k_is)
      (case sa => k_is)
      (case no => intro f hf; simp only [List.mem_cons, List.not_mem_nil, or_false] at hf; rcases hf with rfl | rfl <;> k_is)
      (case m0mk => k_is)
      (case m0a => k_is)
      (case m0n => k_is)
      (case m0kC => k_is)
      (case m0l => k_is)
      (case m0c => k_is)
      (case m0k => k_is)
      (case m1a => k_is)
      (case m1n => k_is)
      (case m1k => k_is)
      (case m1l => k_is)
      (case m1c => k_is)
    obtain ⟨C_Margin, T_Margin, F_Margin_init, F_Margin_narrow⟩ := OX_Margin
    have F_joined_once : My.At (My.kOf KX) mg "joined_once" My.s_joined_once := by
      unfold My.kOf
      refine' My.at_mk KX G ?a ?l ?c ?k
      (case a => k_is)
      (case l => k_is)
      (case c => k_is)
      (case k => k_is)
    have F_pair_counts : My.At (My.kOf KX) mg "pair_counts" My.s_pair_counts := by
      unfold My.kOf
      refine' My.at_mk KX G ?a ?l ?c ?k
      (case a => k_is)
      (case l => k_is)
      (case c => k_is)
      (case k => k_is)
    have F_chosen_pair : My.At (My.kOf KX) mg "chosen_pair" My.s_chosen_pair := by
      unfold My.kOf
      refine' My.at_mk KX G ?a ?l ?c ?k
      (case a => k_is)
      (case l => k_is)
      (case c => k_is)
      (case k => k_is)
    have F_trained_steps : My.At (My.kOf KX) mg "trained_steps" My.s_trained_steps := by
      unfold My.kOf
      refine' My.at_mk KX G ?a ?l ?c ?k
      (case a => k_is)
      (case l => k_is)
      (case c => k_is)
      (case k => k_is)
    have F_narrow_step : My.At (My.kOf KX) mg "narrow_step" My.s_narrow_step := by
      unfold My.kOf
      refine' My.at_mk KX G ?a ?l ?c ?k
      (case a => k_is)
      (case l => k_is)
      (case c => k_is)
      (case k => k_is)
    have F_margin_of : My.At (My.kOf KX) mg "margin_of" My.s_margin_of := by
      unfold My.kOf
      refine' My.at_mk KX G ?a ?l ?c ?k
      (case a => k_is)
      (case l => k_is)
      (case c => k_is)
      (case k => k_is)
    have F__law_pluck : My.At (My.kOf KX) mg "_law_pluck" My.s__law_pluck := by
      unfold My.kOf
      refine' My.at_mk KX G ?a ?l ?c ?k
      (case a => k_is)
      (case l => k_is)
      (case c => k_is)
      (case k => k_is)
    have F__law_trend : My.At (My.kOf KX) mg "_law_trend" My.s__law_trend := by
      unfold My.kOf
      refine' My.at_mk KX G ?a ?l ?c ?k
      (case a => k_is)
      (case l => k_is)
      (case c => k_is)
      (case k => k_is)
    have F__law_field : My.At (My.kOf KX) mg "_law_field" My.s__law_field := by
      unfold My.kOf
      refine' My.at_mk KX G ?a ?l ?c ?k
      (case a => k_is)
      (case l => k_is)
      (case c => k_is)
      (case k => k_is)
    have F__law_letters : My.At (My.kOf KX) mg "_law_letters" My.s__law_letters := by
      unfold My.kOf
      refine' My.at_mk KX G ?a ?l ?c ?k
      (case a => k_is)
      (case l => k_is)
      (case c => k_is)
      (case k => k_is)
    have F__law_count : My.At (My.kOf KX) mg "_law_count" My.s__law_count := by
      unfold My.kOf
      refine' My.at_mk KX G ?a ?l ?c ?k
      (case a => k_is)
      (case l => k_is)
      (case c => k_is)
      (case k => k_is)
    have F__law_corpus : My.At (My.kOf KX) mg "_law_corpus" My.s__law_corpus := by
      unfold My.kOf
      refine' My.at_mk KX G ?a ?l ?c ?k
      (case a => k_is)
      (case l => k_is)
      (case c => k_is)
      (case k => k_is)
    have F__law_sums : My.At (My.kOf KX) mg "_law_sums" My.s__law_sums := by
      unfold My.kOf
      refine' My.at_mk KX G ?a ?l ?c ?k
      (case a => k_is)
      (case l => k_is)
      (case c => k_is)
      (case k => k_is)
    have F__law_joined : My.At (My.kOf KX) mg "_law_joined" My.s__law_joined := by
      unfold My.kOf
      refine' My.at_mk KX G ?a ?l ?c ?k
      (case a => k_is)
      (case l => k_is)
      (case c => k_is)
      (case k => k_is)
    have F__law_demands : My.At (My.kOf KX) mg "_law_demands" My.s__law_demands := by
      unfold My.kOf
      refine' My.at_mk KX G ?a ?l ?c ?k
      (case a => k_is)
      (case l => k_is)
      (case c => k_is)
      (case k => k_is)
    have F__law_margin : My.At (My.kOf KX) mg "_law_margin" My.s__law_margin := by
      unfold My.kOf
      refine' My.at_mk KX G ?a ?l ?c ?k
      (case a => k_is)
      (case l => k_is)
      (case c => k_is)
      (case k => k_is)
    have F__law_is : My.At (My.kOf KX) mg "_law_is" My.s__law_is := by
      unfold My.kOf
      refine' My.at_mk KX G ?a ?l ?c ?k
      (case a => k_is)
      (case l => k_is)
      (case c => k_is)
      (case k => k_is)
    have F__law_sure : My.At (My.kOf KX) mg "_law_sure" My.s__law_sure := by
      unfold My.kOf
      refine' My.at_mk KX G ?a ?l ?c ?k
      (case a => k_is)
      (case l => k_is)
      (case c => k_is)
      (case k => k_is)
    have F__law_wide : My.At (My.kOf KX) mg "_law_wide" My.s__law_wide := by
      unfold My.kOf
      refine' My.at_mk KX G ?a ?l ?c ?k
      (case a => k_is)
      (case l => k_is)
      (case c => k_is)
      (case k => k_is)
    refine' My.fin_of (st := My.s_law) KX G hmg ?a ?l ?c ?k (fun s v => .of_eq rfl) (fun f fd F base => ?_)
    (case a => k_is)
    (case l => k_is)
    (case c => k_is)
    (case k => k_is)
    have k_Margin := My.ok_Margin_init (P := (PySem.Challenge.rw_seamsight_k24_margins).prog) (w := w) (base := base) (PO := My.POG 7) T_Margin F_Margin_init
    have k_Margin_narrow := My.ok_Margin_narrow (P := (PySem.Challenge.rw_seamsight_k24_margins).prog) (w := w) (base := base) (PO := My.POG 7) T_Margin b_max F_Margin_narrow
    have c_joined_once := My.ok_joined_once (P := (PySem.Challenge.rw_seamsight_k24_margins).prog) (w := w) (base := base) (PO := My.POG 7) b_len F_joined_once
    have c_pair_counts := My.ok_pair_counts (P := (PySem.Challenge.rw_seamsight_k24_margins).prog) (w := w) (base := base) (PO := My.POG 7) b_zip F_pair_counts
    have c_chosen_pair := My.ok_chosen_pair (P := (PySem.Challenge.rw_seamsight_k24_margins).prog) (w := w) (base := base) (PO := My.POG 7) b_sorted F_chosen_pair
    have c_trained_steps := My.ok_trained_steps (P := (PySem.Challenge.rw_seamsight_k24_margins).prog) (w := w) (base := base) (PO := My.POG 7) c_chosen_pair c_joined_once c_pair_counts b_list b_range F_trained_steps
    have c_narrow_step := My.ok_narrow_step (P := (PySem.Challenge.rw_seamsight_k24_margins).prog) (w := w) (base := base) (PO := My.POG 7) T_Margin k_Margin_narrow F_narrow_step
    have c_margin_of := My.ok_margin_of (P := (PySem.Challenge.rw_seamsight_k24_margins).prog) (w := w) (base := base) (PO := My.POG 7) T_Margin k_Margin c_joined_once c_narrow_step c_pair_counts c_trained_steps b_enumerate b_len b_list b_range F_margin_of
    have cF__law_pluck := My.ok__law_pluck (P := (PySem.Challenge.rw_seamsight_k24_margins).prog) (w := w) (base := base) b_int F__law_pluck
    have c__law_pluck := My.pour_of cF__law_pluck
    have cF__law_trend := My.ok__law_trend (P := (PySem.Challenge.rw_seamsight_k24_margins).prog) (w := w) (base := base) cF__law_pluck b_int F__law_trend
    have c__law_trend := My.bias_of cF__law_trend
    have c__law_field := My.ok__law_field (P := (PySem.Challenge.rw_seamsight_k24_margins).prog) (w := w) (base := base) cF__law_pluck b_int b_range F__law_field
    have c__law_letters := My.ok__law_letters (P := (PySem.Challenge.rw_seamsight_k24_margins).prog) (w := w) (base := base) c__law_pluck b_int b_range b_sorted F__law_letters
    have c__law_count := My.ok__law_count (P := (PySem.Challenge.rw_seamsight_k24_margins).prog) (w := w) (base := base) c__law_pluck c__law_trend F__law_count
    have c__law_corpus := My.ok__law_corpus (P := (PySem.Challenge.rw_seamsight_k24_margins).prog) (w := w) (base := base) c__law_count c__law_pluck c__law_trend b_len b_range b_set b_sorted b_tuple F__law_corpus
    have c__law_sums := My.ok__law_sums (P := (PySem.Challenge.rw_seamsight_k24_margins).prog) (w := w) (base := base) (PO := My.POG 7) b_len b_range F__law_sums
    have c__law_joined := My.ok__law_joined (P := (PySem.Challenge.rw_seamsight_k24_margins).prog) (w := w) (base := base) (PO := My.POG 7) b_len F__law_joined
    have c__law_demands := My.ok__law_demands (P := (PySem.Challenge.rw_seamsight_k24_margins).prog) (w := w) (base := base) (PO := My.POG 7) c__law_joined c__law_sums b_range b_sorted F__law_demands
    have c__law_margin := My.ok__law_margin (P := (PySem.Challenge.rw_seamsight_k24_margins).prog) (w := w) (base := base) (PO := My.POG 7) c__law_demands b_max F__law_margin
    have c__law_is := My.ok__law_is (P := (PySem.Challenge.rw_seamsight_k24_margins).prog) (w := w) (base := base) (PO := My.POG 7) b_bool b_int b_isinstance b_len b_tuple F__law_is
    have c__law_sure := My.ok__law_sure (P := (PySem.Challenge.rw_seamsight_k24_margins).prog) (w := w) (base := base) c__law_is c__law_letters c__law_pluck c_margin_of F__law_sure
    have c__law_wide := My.ok__law_wide (P := (PySem.Challenge.rw_seamsight_k24_margins).prog) (w := w) (base := base) c__law_is c__law_margin c__law_pluck c_margin_of b_len b_range b_tuple F__law_wide
    exact My.ok_law F c__law_field c__law_pluck c__law_trend c__law_letters c__law_corpus c_margin_of c__law_margin c__law_is c__law_sure c__law_wide b_range b_len
