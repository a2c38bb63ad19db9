import PyProof.Rows.All
import Wide.All
import OpenK.AllK
import Wide.FinOn
import HandS.ForMost
import HandS.ForExc
import HandS.IsInst
import HandS.SetFor
import HandS.Strs
import HandS.SortInts
import HandS.Set
import HandS.Style
import PyProof.Rows.SortShellAny
import HandS.ExcIs
import HandS.ExcOwn
import HandS.TryOnly
import HandS.TryMany
import HandS.CallLocal
import PySem.Challenge.RW_cutline_k15_whole_asked_behind_deeds
set_option Elab.async false
set_option linter.all false
set_option maxRecDepth 100000
/-! walking rules: each reading's constructor taken from the left, heaps kept abstract -/
namespace Wk
open PySem PySem.Spec PyProof.Rows L2

/-! ### heaps -/
/-- all but l as it was -/
def Mv (H : Hp) (l : Addr) (H' : Hp) : Prop := ∀ b, b ≠ l → H' b = H b
theorem same_new {H : Hp} {p : Addr} {o : HO} (h : H p = none) : Same H (upd H p o) := fun b u e => by
  rw [upd_ne (ne_of_none e h)]
  exact e
theorem mv_upd {H : Hp} {p : Addr} {o : HO} : Mv H p (upd H p o) := fun b h => upd_ne h
theorem Same.via {A B C : Hp} (a : Same A B) (b : Same B C) : Same A C := fun c o h => b c o (a c o h)
theorem Same.mutd {A B C : Hp} {l : Addr} (a : Same A B) (m : Mv B l C) (n : A l = none) : Same A C := fun c o h => by
  rw [m c (ne_of_none h n)]
  exact a c o h
theorem get_via {A B : Hp} {p : Addr} {o : HO} (s : Same A B) (h : A p = some o) : B p = some o := s p o h
theorem get_mv {A B : Hp} {p l : Addr} {o : HO} (m : Mv A l B) (n : p ≠ l) (h : A p = some o) : B p = some o := by
  rw [m p n]
  exact h
theorem fresh_back {A B : Hp} {p : Addr} (s : Same A B) (h : B p = none) : A p = none := by
  cases q : A p with
  | none => rfl
  | some o =>
    rw [s p o q] at h
    cases h
theorem seqT {K : PySem.W.Frag} {H H' : Hp} {a : Addr} {xs : List V} (e : Same H H') (h : SqT K H a xs) : SqT K H' a xs := by
  rcases h with (h | ⟨o, h⟩) | h
  · exact .inl (.inl (e _ _ h))
  · exact .inl (.inr ⟨o, e _ _ h⟩)
  · exact .inr h
theorem seqL {K : PySem.W.Frag} {H H' : Hp} {a : Addr} {xs : List V} (e : Same H H') (h : SqL K H a xs) : SqL K H' a xs := Same.seq e h
theorem sz {n : Nat} (h : n ≤ 100000) : n ≤ sizeLine := Nat.le_trans h (by decide)
theorem szl {n : Nat} (h : n < 100000) : n < sizeLine := Nat.lt_of_lt_of_le h (by decide)

/-! ### data read deep -/
theorem dp_all_get {K : PySem.W.Frag} {H : Hp} : ∀ {vs : List V} {ds : List PyData}, DpAll K H vs ds → vs.length = ds.length
  | _, _, .nil => rfl
  | _, _, .cons _ t => by rw [List.length_cons, List.length_cons, dp_all_get t]
mutual
theorem dp_same {K : PySem.W.Frag} {H H' : Hp} (e : Same H H') : ∀ {v : V} {d : PyData}, Dp K H v d → Dp K H' v d
  | _, _, .non => .non
  | _, _, .bl b => .bl b
  | _, _, .int i => .int i
  | _, _, .str x => .str x
  | _, _, .lst h t => .lst (seqL e h) (dpa_same e t)
  | _, _, .tup h t => .tup (seqT e h) (dpa_same e t)
theorem dpa_same {K : PySem.W.Frag} {H H' : Hp} (e : Same H H') : ∀ {vs : List V} {ds : List PyData}, DpAll K H vs ds → DpAll K H' vs ds
  | _, _, .nil => .nil
  | _, _, .cons h t => .cons (dp_same e h) (dpa_same e t)
end

/-! ### expressions -/
section
variable {K : PySem.W.Frag} {σ : L2.St} {H : Hp} {Q : VK} {ta tb te tc : TE} {v w x y : V} {p q l : Addr} {xs ys zs : List V} {i j : Int}
theorem g_var {n : Nat} (h : σ[n]? = some (some v)) (k : Q v H) : tVar n σ H Q := ⟨v, h, k⟩
theorem g_c (k : Q v H) : tC v σ H Q := k
theorem g_op {r : R2} (h : ta σ H fun x H1 => tb σ H1 fun y H2 => r x y H2 Q) : tOp r ta tb σ H Q := h
theorem g_un {r : V → Hp → VK → Prop} (h : ta σ H fun x H1 => r x H1 Q) : tUn r ta σ H Q := h
theorem g_I0 {g : Int → Int → V} (k : Q (g i j) H) : rI0 g (.int i) (.int j) H Q := ⟨i, j, rfl, rfl, k⟩
theorem g_I {C : Int → Int → Prop} {g : Int → Int → V} (c : C i j) (k : Q (g i j) H) : rI C g (.int i) (.int j) H Q := ⟨i, j, rfl, rfl, c, k⟩
theorem g_U {g : Int → V} (k : Q (g i) H) : rU g (.int i) H Q := ⟨i, rfl, k⟩

/-- a + b: ints, texts, lists -/
def rCatS : R2 := fun x y H Q => ∃ i j, x = .str i ∧ y = .str j ∧ i.length + j.length ≤ sizeLine ∧ Q (.str (i ++ j)) H
def rAddA : R2 := fun x y H Q => rI0 (fun i j => .int (i + j)) x y H Q ∨ rCatS x y H Q ∨ rCat x y H Q
theorem op_addA {X : Cx} : OpR X (binaryOp .Add) rAddA := op_add.or (op_add_str.or op_cat)
theorem g_addI (k : Q (.int (i + j)) H) : rAddA (.int i) (.int j) H Q := .inl ⟨i, j, rfl, rfl, k⟩
theorem g_addS {a b : Str} (h : a.length + b.length ≤ 100000) (k : Q (.str (a ++ b)) H) : rAddA (.str a) (.str b) H Q := .inr (.inl ⟨a, b, rfl, rfl, sz h, k⟩)
theorem g_addL (h1 : H p = some (.lst xs)) (h2 : H q = some (.lst ys)) (h : xs.length + ys.length ≤ 100000) (k : ∀ l H', H l = none → Same H H' → H' l = some (.lst (xs ++ ys)) → Q (.ref l) H') : rAddA (.ref p) (.ref q) H Q :=
  .inr (.inr ⟨p, q, xs, ys, rfl, rfl, h1, h2, sz h, fun l hl => k l _ hl (same_new hl) upd_same⟩)

/-- a[i]: lists, tuples, texts -/
theorem g_ixL (h : SqL K H p xs) (a : atI xs i = some v) (k : Q v H) : rIx K (.ref p) (.int i) H Q := .inl ⟨p, xs, i, v, rfl, rfl, h, a, k⟩
theorem g_ixT (h : SqT K H p xs) (a : atI xs i = some v) (k : Q v H) : rIx K (.ref p) (.int i) H Q := .inr (.inl ⟨p, xs, i, v, rfl, rfl, h, a, k⟩)
theorem g_ixS {z : Str} {c : Nat} (hz : z.length ≤ 100000) (a : atI z.cps.toList i = some c) (k : Q (.str ⟨#[c]⟩) H) : rIx K (.str z) (.int i) H Q := .inr (.inr ⟨z, i, c, rfl, rfl, sz hz, a, k⟩)

/-- a == b: scalars, data -/
def rEqA (K : PySem.W.Frag) : R2 := fun x y H Q => rEq x y H Q ∨ rEqD K x y H Q
def rNeA (K : PySem.W.Frag) : R2 := fun x y H Q => rNe x y H Q ∨ rNeD K x y H Q
theorem op_eqA {X : Cx} (hu : X.A.units + 64 < cLine) : OpR X (compareOp .Eq) (rEqA X.K) := op_eq.or (op_eqD hu)
theorem op_neA {X : Cx} (hu : X.A.units + 64 < cLine) : OpR X (compareOp .NotEq) (rNeA X.K) := op_ne.or (op_neD hu)
theorem dI {i j : Int} : decide (V.int i = V.int j) = decide (i = j) := by by_cases h : i = j <;> simp [h]
theorem dS {i j : Str} : decide (V.str i = V.str j) = decide (i = j) := by by_cases h : i = j <;> simp [h]
theorem dB {i j : Bool} : decide (V.bl i = V.bl j) = decide (i = j) := by by_cases h : i = j <;> simp [h]
theorem g_eqI (k : Q (.bl (decide (i = j))) H) : rEqA K (.int i) (.int j) H Q := .inl ⟨rfl, by rw [dI]; exact k⟩
theorem g_eqS {a b : Str} (k : Q (.bl (decide (a = b))) H) : rEqA K (.str a) (.str b) H Q := .inl ⟨rfl, by rw [dS]; exact k⟩
theorem g_eqB {a b : Bool} (k : Q (.bl (decide (a = b))) H) : rEqA K (.bl a) (.bl b) H Q := .inl ⟨rfl, by rw [dB]; exact k⟩
theorem g_eqV (s : scal v w = true) (k : Q (.bl (decide (v = w))) H) : rEqA K v w H Q := .inl ⟨s, k⟩
theorem g_eqD {d e : PyData} (h1 : Dp K H v d) (h2 : Dp K H w e) (s1 : SeqAt.shaped d = true) (s2 : SeqAt.shaped e = true) (k : Q (.bl (PyData.eqv d e)) H) : rEqA K v w H Q := .inr ⟨d, e, h1, h2, s1, s2, k⟩
theorem g_neI (k : Q (.bl (!decide (i = j))) H) : rNeA K (.int i) (.int j) H Q := .inl ⟨rfl, by rw [dI]; exact k⟩
theorem g_neS {a b : Str} (k : Q (.bl (!decide (a = b))) H) : rNeA K (.str a) (.str b) H Q := .inl ⟨rfl, by rw [dS]; exact k⟩
theorem g_neV (s : scal v w = true) (k : Q (.bl (!decide (v = w))) H) : rNeA K v w H Q := .inl ⟨s, k⟩
theorem g_neD {d e : PyData} (h1 : Dp K H v d) (h2 : Dp K H w e) (s1 : SeqAt.shaped d = true) (s2 : SeqAt.shaped e = true) (k : Q (.bl (!PyData.eqv d e)) H) : rNeA K v w H Q := .inr ⟨d, e, h1, h2, s1, s2, k⟩
/-- is None -/
def rIsN : R2 := fun x y H Q => y = .non ∧ Q (.bl (decide (x = .non))) H
def rNotN : R2 := fun x y H Q => y = .non ∧ Q (.bl (!decide (x = .non))) H
theorem op_isN' {X : Cx} : OpR X (compareOp .Is) rIsN := op_isN
theorem op_notN' {X : Cx} : OpR X (compareOp .IsNot) rNotN := op_notN
theorem g_isNN (k : Q (.bl true) H) : rIsN .non .non H Q := ⟨rfl, k⟩
theorem g_isNI (k : Q (.bl false) H) : rIsN (.int i) .non H Q := ⟨rfl, k⟩
theorem g_isNS {z : Str} (k : Q (.bl false) H) : rIsN (.str z) .non H Q := ⟨rfl, k⟩
theorem g_isNR (k : Q (.bl false) H) : rIsN (.ref p) .non H Q := ⟨rfl, k⟩
theorem g_isNV (k : Q (.bl (decide (v = .non))) H) : rIsN v .non H Q := ⟨rfl, k⟩
theorem g_notNN (k : Q (.bl false) H) : rNotN .non .non H Q := ⟨rfl, k⟩
theorem g_notNI (k : Q (.bl true) H) : rNotN (.int i) .non H Q := ⟨rfl, k⟩
theorem g_notNS {z : Str} (k : Q (.bl true) H) : rNotN (.str z) .non H Q := ⟨rfl, k⟩
theorem g_notNR (k : Q (.bl true) H) : rNotN (.ref p) .non H Q := ⟨rfl, k⟩
theorem g_notNV (k : Q (.bl (!decide (v = .non))) H) : rNotN v .non H Q := ⟨rfl, k⟩

/-! arguments, calls -/
theorem g_nil {Q : List V → Hp → Prop} (k : Q [] H) : tNil σ H Q := k
theorem g_cons {tr : TA} {Q : List V → Hp → Prop} (h : ta σ H fun x H1 => tr σ H1 fun xs H2 => Q (x :: xs) H2) : tCons ta tr σ H Q := h
theorem g_CB {r : List V → Hp → VK → Prop} {t : TA} (h : t σ H fun vs H1 => r vs H1 Q) : tCB r t σ H Q := h
def kCall (sp : Sp) (E : XK) (Q : VK) (vs : List V) (H : Hp) : Prop := sp vs H Q E
theorem g_call {sp : Sp} {E : XK} {t : TA} (h : t σ H (kCall sp E Q)) : tCall sp [] E t σ H Q := by
  show t σ H fun vs H1 => sp (vs ++ []) H1 Q E
  have e : (fun (vs : List V) (H1 : Hp) => sp (vs ++ []) H1 Q E) = kCall sp E Q := by
    funext vs H1
    show sp (vs ++ []) H1 Q E = sp vs H1 Q E
    rw [List.append_nil]
  rw [e]
  exact h
/-- len -/
def rLen (K : PySem.W.Frag) : List V → Hp → VK → Prop := fun xs H Q => ∃ x n, xs = [x] ∧ LenV K x H n ∧ Q (.int n) H
theorem call_lenA {X : Cx} : CallR X (.builtin "len") (rLen X.K) := call_len
theorem g_lenL (h : SqL K H p xs) (k : Q (.int (xs.length : Int)) H) : rLen K [.ref p] H Q := ⟨.ref p, xs.length, rfl, .inl ⟨xs, h, rfl⟩, k⟩
theorem g_lenT (h : SqT K H p xs) (k : Q (.int (xs.length : Int)) H) : rLen K [.ref p] H Q := ⟨.ref p, xs.length, rfl, .inr ⟨xs, h, rfl⟩, k⟩
theorem g_lenS {z : Str} (h : z.length ≤ 100000) (k : Q (.int (z.length : Int)) H) : rLen K [.str z] H Q := ⟨.str z, z.length, rfl, ⟨sz h, rfl⟩, k⟩
/-- list(xs), list(t) -/
def rListA (K : PySem.W.Frag) : List V → Hp → VK → Prop := fun xs H Q => ∃ p ys, xs = [.ref p] ∧ (SqL K H p ys ∨ SqT K H p ys) ∧ ∀ l, H l = none → Q (.ref l) (upd H l (.lst ys))
theorem call_listA {X : Cx} : CallR X (.type "list") (rListA X.K) := call_list_of
theorem g_list (h : SqL K H p xs) (k : ∀ l H', H l = none → Same H H' → H' l = some (.lst xs) → Q (.ref l) H') : rListA K [.ref p] H Q :=
  ⟨p, xs, rfl, .inl h, fun l hl => k l _ hl (same_new hl) upd_same⟩
/-- max, min of two -/
def rMax2 : List V → Hp → VK → Prop := fun xs H Q => ∃ i j, xs = [.int i, .int j] ∧ Q (.int (if j > i then j else i)) H
def rMin2 : List V → Hp → VK → Prop := fun xs H Q => ∃ i j, xs = [.int i, .int j] ∧ Q (.int (if j < i then j else i)) H
theorem call_max2' {X : Cx} (hc : X.calm = true) : CallR X (.builtin "max") rMax2 := call_max2 hc
theorem call_min2' {X : Cx} (hc : X.calm = true) : CallR X (.builtin "min") rMin2 := call_min2 hc
theorem g_max2 (k : Q (.int (max i j)) H) : rMax2 [.int i, .int j] H Q := ⟨i, j, rfl, by
  have e : (if j > i then j else i) = max i j := by
    by_cases h : j > i
    · rw [if_pos h]; omega
    · rw [if_neg h]; omega
  rw [e]; exact k⟩
theorem g_min2 (k : Q (.int (min i j)) H) : rMin2 [.int i, .int j] H Q := ⟨i, j, rfl, by
  have e : (if j < i then j else i) = min i j := by
    by_cases h : j < i
    · rw [if_pos h]; omega
    · rw [if_neg h]; omega
  rw [e]; exact k⟩
/-- displays -/
def kLst (Q : VK) (xs : List V) (H : Hp) : Prop := xs.length ≤ sizeLine ∧ ∀ p, H p = none → Q (.ref p) (upd H p (.lst xs))
def kTup (Q : VK) (xs : List V) (H : Hp) : Prop := xs.length ≤ sizeLine ∧ ∀ p, H p = none → Q (.ref p) (upd H p (.tup xs))
theorem g_lst {t : TA} (h : t σ H (kLst Q)) : tLst t σ H Q := h
theorem g_tup {t : TA} (h : t σ H (kTup Q)) : tTup t σ H Q := h
theorem g_kLst (h : xs.length ≤ 100000) (k : ∀ p H', H p = none → Same H H' → H' p = some (.lst xs) → Q (.ref p) H') : kLst Q xs H := ⟨sz h, fun p hp => k p _ hp (same_new hp) upd_same⟩
theorem g_kTup (h : xs.length ≤ 100000) (k : ∀ p H', H p = none → Same H H' → H' p = some (.tup xs) → Q (.ref p) H') : kTup Q xs H := ⟨sz h, fun p hp => k p _ hp (same_new hp) upd_same⟩
/-- slices -/
theorem g_sl {r : V → Option Int → Option Int → Hp → VK → Prop} {tl th : TO} (h : te σ H fun x H1 => tl σ H1 fun a H2 => th σ H2 fun b H3 => r x a b H3 Q) : tSl r te tl th σ H Q := h
theorem g_noPart {Q : Option Int → Hp → Prop} (k : Q none H) : tNoPart σ H Q := k
def kPart (Q : Option Int → Hp → Prop) (x : V) (H : Hp) : Prop := ∃ i, x = .int i ∧ Q (some i) H
theorem g_part {Q : Option Int → Hp → Prop} (h : te σ H (kPart Q)) : tPart te σ H Q := h
theorem g_kPart {Q : Option Int → Hp → Prop} (k : Q (some i) H) : kPart Q (.int i) H := ⟨i, rfl, k⟩
theorem g_slL {lo hi : Option Int} (h : SqL K H p xs) (k : ∀ l H', H l = none → Same H H' → H' l = some (.lst (cutV xs lo hi)) → Q (.ref l) H') : rSlL K (.ref p) lo hi H Q :=
  ⟨p, xs, rfl, h, fun l hl => k l _ hl (same_new hl) upd_same⟩
/-- tests as values and back -/
def kTest (Q : Bool → Hp → Prop) (x : V) (H : Hp) : Prop := ∃ k, x = .bl k ∧ Q k H
theorem g_test {Q : Bool → Hp → Prop} (h : te σ H (kTest Q)) : tTest te σ H Q := h
theorem g_tB {Q : Bool → Hp → Prop} (h : te σ H (kTest Q)) : tB te σ H Q := h
theorem g_kTest {Q : Bool → Hp → Prop} {b : Bool} (k : Q b H) : kTest Q (.bl b) H := ⟨b, rfl, k⟩
def kChain (r' : R2) (tc : TE) (σ : L2.St) (y : V) (Q : VK) (z : V) (H : Hp) : Prop := ∃ k, z = .bl k ∧ (if k = true then tc σ H fun w' H4 => r' y w' H4 Q else Q (.bl false) H)
/-- and, or, not, if .. else -/
def kAnd (u : TT) (σ : L2.St) (Q : Bool → Hp → Prop) (c : Bool) (H : Hp) : Prop := if c = true then u σ H Q else Q false H
def kOr (u : TT) (σ : L2.St) (Q : Bool → Hp → Prop) (c : Bool) (H : Hp) : Prop := if c = true then Q true H else u σ H Q
theorem g_and {t u : TT} {Q : Bool → Hp → Prop} (h : t σ H (kAnd u σ Q)) : tAnd t u σ H Q := h
theorem g_or {t u : TT} {Q : Bool → Hp → Prop} (h : t σ H (kOr u σ Q)) : tOr t u σ H Q := h
theorem g_not {t : TT} {Q : Bool → Hp → Prop} (h : t σ H fun c H1 => Q (!c) H1) : tNot t σ H Q := h
theorem g_kAnd {u : TT} {Q : Bool → Hp → Prop} {c : Bool} (h1 : c = true → u σ H Q) (h2 : c = false → Q false H) : kAnd u σ Q c H := by
  cases c with
  | true => exact h1 rfl
  | false => exact h2 rfl
theorem g_kOr {u : TT} {Q : Bool → Hp → Prop} {c : Bool} (h1 : c = true → Q true H) (h2 : c = false → u σ H Q) : kOr u σ Q c H := by
  cases c with
  | true => exact h1 rfl
  | false => exact h2 rfl
theorem g_kAndT {u : TT} {Q : Bool → Hp → Prop} {c : Bool} (hc : c = true) (h1 : u σ H Q) : kAnd u σ Q c H := by
  subst hc
  exact h1
theorem g_kAndF {u : TT} {Q : Bool → Hp → Prop} {c : Bool} (hc : c = false) (h1 : Q false H) : kAnd u σ Q c H := by
  subst hc
  exact h1
theorem g_kOrT {u : TT} {Q : Bool → Hp → Prop} {c : Bool} (hc : c = true) (h1 : Q true H) : kOr u σ Q c H := by
  subst hc
  exact h1
theorem g_kOrF {u : TT} {Q : Bool → Hp → Prop} {c : Bool} (hc : c = false) (h1 : u σ H Q) : kOr u σ Q c H := by
  subst hc
  exact h1
def kAndV (tb : TE) (σ : L2.St) (Q : VK) (x : V) (H : Hp) : Prop := ∃ c, x = .bl c ∧ if c = true then tb σ H Q else Q (.bl false) H
def kOrV (tb : TE) (σ : L2.St) (Q : VK) (x : V) (H : Hp) : Prop := ∃ c, x = .bl c ∧ if c = true then Q (.bl true) H else tb σ H Q
def kNotV (Q : VK) (x : V) (H : Hp) : Prop := ∃ c, x = .bl c ∧ Q (.bl (!c)) H
theorem g_andV (h : ta σ H (kAndV tb σ Q)) : tAndV ta tb σ H Q := h
theorem g_orV (h : ta σ H (kOrV tb σ Q)) : tOrV ta tb σ H Q := h
theorem g_notV (h : ta σ H (kNotV Q)) : tNotV ta σ H Q := h
theorem g_kAndV {c : Bool} (h1 : c = true → tb σ H Q) (h2 : c = false → Q (.bl false) H) : kAndV tb σ Q (.bl c) H := ⟨c, rfl, by
  cases c with
  | true => exact h1 rfl
  | false => exact h2 rfl⟩
theorem g_kOrV {c : Bool} (h1 : c = true → Q (.bl true) H) (h2 : c = false → tb σ H Q) : kOrV tb σ Q (.bl c) H := ⟨c, rfl, by
  cases c with
  | true => exact h1 rfl
  | false => exact h2 rfl⟩
/-- and, or with one end, told by d -/
theorem g_kAndVm {c : Bool} (d : Bool) (h1 : c = true → ∀ Q' : VK, (∀ H', Same H H' → Q' (.bl d) H') → tb σ H Q') (h2 : c = false → d = false) (k : ∀ H', Same H H' → Q (.bl d) H') : kAndV tb σ Q (.bl c) H :=
  g_kAndV (fun hc => h1 hc Q k) fun hc => by have q := k H (Same.refl H); rw [h2 hc] at q; exact q
theorem g_kOrVm {c : Bool} (d : Bool) (h1 : c = true → d = true) (h2 : c = false → ∀ Q' : VK, (∀ H', Same H H' → Q' (.bl d) H') → tb σ H Q') (k : ∀ H', Same H H' → Q (.bl d) H') : kOrV tb σ Q (.bl c) H :=
  g_kOrV (fun hc => by have q := k H (Same.refl H); rw [h1 hc] at q; exact q) fun hc => h2 hc Q k
theorem g_kAndm {u : TT} {Q : Bool → Hp → Prop} {c : Bool} (d : Bool) (h1 : c = true → ∀ Q' : Bool → Hp → Prop, (∀ H', Same H H' → Q' d H') → u σ H Q') (h2 : c = false → d = false) (k : ∀ H', Same H H' → Q d H') : kAnd u σ Q c H :=
  g_kAnd (fun hc => h1 hc Q k) fun hc => by have q := k H (Same.refl H); rw [h2 hc] at q; exact q
theorem g_kOrm {u : TT} {Q : Bool → Hp → Prop} {c : Bool} (d : Bool) (h1 : c = true → d = true) (h2 : c = false → ∀ Q' : Bool → Hp → Prop, (∀ H', Same H H' → Q' d H') → u σ H Q') (k : ∀ H', Same H H' → Q d H') : kOr u σ Q c H :=
  g_kOr (fun hc => by have q := k H (Same.refl H); rw [h1 hc] at q; exact q) fun hc => h2 hc Q k
theorem g_kNotV {c : Bool} (k : Q (.bl (!c)) H) : kNotV Q (.bl c) H := ⟨c, rfl, k⟩
def kIfE (ta tb : TE) (σ : L2.St) (Q : VK) (c : Bool) (H : Hp) : Prop := if c = true then ta σ H Q else tb σ H Q
theorem g_ifE {t : TT} (h : t σ H (kIfE ta tb σ Q)) : tIf t ta tb σ H Q := h
theorem g_kIfE {c : Bool} (h1 : c = true → ta σ H Q) (h2 : c = false → tb σ H Q) : kIfE ta tb σ Q c H := by
  cases c with
  | true => exact h1 rfl
  | false => exact h2 rfl
/-- fields -/
def kFld (K : PySem.W.Frag) (f : Str) (Q : VK) (x : V) (H : Hp) : Prop := ∃ a C dx fs v, x = .ref a ∧ H a = some (.ins C dx fs) ∧ Cls K C ∧ NoAttr K C f ∧ fs.lookup f = some v ∧ Q v H
theorem g_fld {f : Str} (h : ta σ H (kFld K f Q)) : tFld K ta f σ H Q := h
/-- isinstance -/
theorem call_isiA {X : Cx} : CallR X (.builtin "isinstance") (rIsi X.K) := call_isi
theorem g_isiI {n : String} {b : Bool} (h : kitB "int" n = some b) (k : Q (.bl b) H) : rIsi K [.int i, .ty n] H Q := ⟨_, _, _, _, b, rfl, .ty n, .base (.int i), kit_ty h, k⟩
theorem g_isiS {z : Str} {n : String} {b : Bool} (h : kitB "str" n = some b) (k : Q (.bl b) H) : rIsi K [.str z, .ty n] H Q := ⟨_, _, _, _, b, rfl, .ty n, .base (.str z), kit_ty h, k⟩
theorem g_isiB {z : Bool} {n : String} {b : Bool} (h : kitB "bool" n = some b) (k : Q (.bl b) H) : rIsi K [.bl z, .ty n] H Q := ⟨_, _, _, _, b, rfl, .ty n, .base (.bl z), kit_ty h, k⟩
theorem g_isiN {n : String} {b : Bool} (h : kitB "NoneType" n = some b) (k : Q (.bl b) H) : rIsi K [.non, .ty n] H Q := ⟨_, _, _, _, b, rfl, .ty n, .base .non, kit_ty h, k⟩
theorem g_isiL {n : String} {b : Bool} (e : H p = some (.lst xs)) (h : kitB "list" n = some b) (k : Q (.bl b) H) : rIsi K [.ref p, .ty n] H Q := ⟨_, _, _, _, b, rfl, .ty n, .base (.lst e), kit_ty h, k⟩
theorem g_isiT {n : String} {b : Bool} (e : H p = some (.tup xs)) (h : kitB "tuple" n = some b) (k : Q (.bl b) H) : rIsi K [.ref p, .ty n] H Q := ⟨_, _, _, _, b, rfl, .ty n, .base (.tup e), kit_ty h, k⟩
end

theorem k_ii : kitB "int" "int" = some true := by decide +kernel
theorem k_ib : kitB "int" "bool" = some false := by decide +kernel
theorem k_ss : kitB "str" "str" = some true := by decide +kernel
theorem k_ns : kitB "NoneType" "str" = some false := by decide +kernel
theorem k_ni : kitB "NoneType" "int" = some false := by decide +kernel
theorem k_bb : kitB "bool" "bool" = some true := by decide +kernel
theorem k_ll : kitB "list" "list" = some true := by decide +kernel
theorem k_tt : kitB "tuple" "tuple" = some true := by decide +kernel
theorem k_it : kitB "int" "tuple" = some false := by decide +kernel
theorem k_nt : kitB "NoneType" "tuple" = some false := by decide +kernel
theorem k_sb : kitB "str" "bool" = some false := by decide +kernel
theorem k_nb : kitB "NoneType" "bool" = some false := by decide +kernel
/-! ### statements -/
abbrev go (t : TS) (D : Ends) (σ : L2.St) (H : Hp) : Prop := t D σ H
section
variable {K : PySem.W.Frag} {σ : L2.St} {H : Hp} {t u tb : TS} {te ta : TE} {c : TT} {nx bk ct : L2.St → Hp → Prop} {rt : VK} {v : V} {p : Addr} {xs : List V}
theorem g_seq (h : t ⟨fun σ' H' => u ⟨nx, rt, bk, ct⟩ σ' H', rt, bk, ct⟩ σ H) : tSeq t u ⟨nx, rt, bk, ct⟩ σ H := h
theorem g_next (h : nx σ H) : tNext ⟨nx, rt, bk, ct⟩ σ H := h
theorem g_break (h : bk σ H) : tBreak ⟨nx, rt, bk, ct⟩ σ H := h
theorem g_cont (h : ct σ H) : tCont ⟨nx, rt, bk, ct⟩ σ H := h
theorem g_drop (h : te σ H fun _ H1 => nx σ H1) : tDrop te ⟨nx, rt, bk, ct⟩ σ H := h
theorem g_ret (h : te σ H rt) : tRet te ⟨nx, rt, bk, ct⟩ σ H := h
theorem g_retN (h : rt .non H) : tRetN ⟨nx, rt, bk, ct⟩ σ H := h
theorem g_asg {g : TG} (h : te σ H fun x H1 => g x σ H1 nx) : tAsg te g ⟨nx, rt, bk, ct⟩ σ H := h
theorem g_name {n : Nat} {N : L2.St → Hp → Prop} (h : N (σ.set n (some v)) H) : gName n v σ H N := h
def kIf (t u : TS) (D : Ends) (σ : L2.St) (c : Bool) (H : Hp) : Prop := if c = true then t D σ H else u D σ H
theorem g_if {D : Ends} (h : c σ H (kIf t u D σ)) : tIfS c t u D σ H := h
theorem g_kIfT {D : Ends} {b : Bool} (hb : b = true) (h : t D σ H) : kIf t u D σ b H := by
  subst hb
  exact h
theorem g_kIfF {D : Ends} {b : Bool} (hb : b = false) (h : u D σ H) : kIf t u D σ b H := by
  subst hb
  exact h
theorem g_kIf {D : Ends} {b : Bool} (h1 : b = true → t D σ H) (h2 : b = false → u D σ H) : kIf t u D σ b H := by
  cases b with
  | true => exact h1 rfl
  | false => exact h2 rfl
/-- xs.append(e) -/
def kApp (K : PySem.W.Frag) (te : TE) (σ : L2.St) (Q : VK) (x : V) (H : Hp) : Prop := tyV K "list" x H ∧ tCons te tNil σ H fun vs H2 => rAppend x vs H2 Q
theorem g_app {Q : VK} (h : ta σ H (kApp K te σ Q)) : tBM K "list" rAppend ta (tCons te tNil) σ H Q := h
def kApp2 (Q : VK) (p : Addr) (x : V) (H : Hp) : Prop := rAppend (.ref p) [x] H Q
theorem g_kApp {Q : VK} (h : H p = some (.lst xs)) (k : te σ H (kApp2 Q p)) : kApp K te σ Q (.ref p) H := ⟨.inl ⟨rfl, _, SqL.of h⟩, k⟩
theorem g_kApp2 {Q : VK} {x : V} (h : H p = some (.lst xs)) (hz : xs.length < 100000) (k : ∀ H', Mv H p H' → H' p = some (.lst (xs ++ [x])) → Q .non H') : kApp2 Q p x H :=
  ⟨p, xs, x, rfl, rfl, h, szl hz, k _ mv_upd upd_same⟩
/-- a[i] = v -/
theorem g_sub {to ti : TE} {t : TSet} {N : L2.St → Hp → Prop} (h : to σ H fun o H1 => ti σ H1 fun i H2 => t o i v H2 fun H3 => N σ H3) : gSub to ti t v σ H N := h
theorem g_setL {k : Int} {j : Nat} {N : Hp → Prop} (h : H p = some (.lst xs)) (hj : ixN xs.length k = some j) (q : ∀ H', Mv H p H' → H' p = some (.lst (xs.set j v)) → N H') : rSetL (.ref p) (.int k) v H N :=
  ⟨p, xs, k, j, rfl, rfl, h, hj, q _ mv_upd upd_same⟩
theorem ixN_nat {n j : Nat} {k : Int} (e : k = (j : Int)) (h : j < n) : ixN n k = some j := by
  subst e
  unfold ixN
  rw [if_pos (Int.natCast_nonneg j), if_pos (by omega)]
  rfl
/-- loops -/
def kForL (K : PySem.W.Frag) (g : TG) (tb : TS) (D : Ends) (σ : L2.St) (x : V) (H : Hp) : Prop := ∃ a, x = .ref a ∧ (∃ xs, SqL K H a xs) ∧ ∃ W : Nat → Nat → L2.St → Hp → Prop, (∃ m, W 0 m σ H) ∧ ∀ i m σ H, W i m σ H →
  ((Itl K a).stop i H ∧ D.nx σ H) ∨ ((Itl K a).go i H ∧ ∃ N : L2.St → Hp → Prop, (∀ σ' H', N σ' H' → ∃ m', m' < m ∧ W (i + 1) m' σ' H') ∧ ∀ x H', (Itl K a).yld i H x H' → g x σ H' fun σ2 H2 => tb { D with nx := N, ct := N, bk := D.nx } σ2 H2)
theorem g_forL {D : Ends} {g : TG} (h : te σ H (kForL K g tb D σ)) : tFor (iList K te) g tb D σ H := h
theorem g_kForL {g : TG} (hx : SqL K H p xs) (Pv : Nat → L2.St → Hp → Prop) (h0 : Pv 0 σ H) (hl : ∀ i σ' H', Pv i σ' H' → SqL K H' p xs)
    (hs : ∀ i x σ' H', xs[i]? = some x → Pv i σ' H' → g x σ' H' fun σ2 H2 => tb ⟨Pv (i + 1), rt, nx, Pv (i + 1)⟩ σ2 H2) (hd : ∀ σ' H', Pv xs.length σ' H' → nx σ' H') : kForL K g tb ⟨nx, rt, bk, ct⟩ σ (.ref p) H :=
  ⟨p, rfl, ⟨xs, hx⟩, for_list (K := K) (a := p) (xs := xs) (D := ⟨nx, rt, bk, ct⟩) Pv h0 (fun i σ' H' _ q => hl i σ' H' q) hs hd⟩
def kForR (g : TG) (tb : TS) (D : Ends) (σ : L2.St) (vs : List V) (H : Hp) : Prop := ∃ j : Int, vs = [.int j] ∧ -(2 ^ 62) ≤ j ∧ j < 2 ^ 62 ∧ ∃ W : Nat → Nat → L2.St → Hp → Prop, (∃ m, W 0 m σ H) ∧ ∀ i m σ H, W i m σ H →
  ((Itr 0 j.toNat).stop i H ∧ D.nx σ H) ∨ ((Itr 0 j.toNat).go i H ∧ ∃ N : L2.St → Hp → Prop, (∀ σ' H', N σ' H' → ∃ m', m' < m ∧ W (i + 1) m' σ' H') ∧ ∀ x H', (Itr 0 j.toNat).yld i H x H' → g x σ H' fun σ2 H2 => tb { D with nx := N, ct := N, bk := D.nx } σ2 H2)
theorem g_forR {D : Ends} {ta : TA} {g : TG} (h : ta σ H (kForR g tb D σ)) : tFor (iRng1 ta) g tb D σ H := h
theorem g_kForR {g : TG} {n : Nat} {j : Int} (hj : j = (n : Int)) (hn : n ≤ 1000000) (Pv : Nat → L2.St → Hp → Prop) (h0 : Pv 0 σ H)
    (hs : ∀ (i : Nat) σ' H', i < n → Pv i σ' H' → g (.int (i : Int)) σ' H' fun σ2 H2 => tb ⟨Pv (i + 1), rt, nx, Pv (i + 1)⟩ σ2 H2) (hd : ∀ σ' H', Pv n σ' H' → nx σ' H') : kForR g tb ⟨nx, rt, bk, ct⟩ σ [.int j] H := by
  subst hj
  refine ⟨(n : Int), rfl, by omega, by omega, ?_⟩
  rw [show ((n : Int)).toNat = n from rfl]
  refine for_range (lo := 0) (n := n) (D := ⟨nx, rt, bk, ct⟩) Pv h0 (fun i σ' H' hi q => ?_) hd
  rw [Int.zero_add]
  exact hs i σ' H' hi q
end

/-! ### new lines -/
section
variable {K : PySem.W.Frag}
theorem at_nat {α : Type} {xs : List α} {z : Int} {j : Nat} {v : α} (e : z = (j : Int)) (h : xs[j]? = some v) : atI xs z = some v := by
  rw [e]
  exact atI_nat h
end
/-! ### comprehensions -/
section
variable {K : PySem.W.Frag} {σ : L2.St} {H : Hp} {Q : VK} {te tl : TE} {tt : TT} {g : TG} {vs : List Nat} {p : Addr} {xs : List V} {j : Nat}
/-- B bears what is new between A and A' -/
def Nu (A A' B : Hp) : Prop := ∀ b o, A b = none → A' b = some o → B b = some o
def kLc (J : It) (g : TG) (tt : TT) (te : TE) (vs : List Nat) (σ : L2.St) (Q : VK) (H1 : Hp) : Prop := ∀ D, H1 D = none → ∃ W : Nat → Nat → Hp → Prop, (∃ m, W 0 m (upd H1 D (.lst []))) ∧ ∀ i m H, W i m H →
  (J.stop i H ∧ Q (.ref D) H) ∨ (J.go i H ∧ ∃ Nx : Hp → Prop, (∀ H', Nx H' → ∃ m', m' < m ∧ W (i + 1) m' H') ∧ ∀ x H', J.yld i H x H' → g x (wipe σ vs) H' fun σ2 H2 => wipe σ2 vs = wipe σ vs ∧ tt σ2 H2 fun b H3 =>
    if b = true then te σ2 H3 fun y H4 => ∃ acc, H4 D = some (.lst acc) ∧ acc.length < sizeLine ∧ Nx (upd H4 D (.lst (acc ++ [y]))) else Nx H3)
def kLcR (g : TG) (tt : TT) (te : TE) (vs : List Nat) (σ : L2.St) (Q : VK) (as : List V) (H : Hp) : Prop := ∃ z : Int, as = [.int z] ∧ -(2 ^ 62) ≤ z ∧ z < 2 ^ 62 ∧ kLc (Itr 0 z.toNat) g tt te vs σ Q H
theorem g_lcR {ta : TA} (h : ta σ H (kLcR g tt te vs σ Q)) : tLc (iRng1 ta) g tt te vs σ H Q := h
def kLcL (K : PySem.W.Frag) (g : TG) (tt : TT) (te : TE) (vs : List Nat) (σ : L2.St) (Q : VK) (x : V) (H : Hp) : Prop := ∃ a, x = .ref a ∧ (∃ xs, SqL K H a xs) ∧ kLc (Itl K a) g tt te vs σ Q H
theorem g_lcL (h : tl σ H (kLcL K g tt te vs σ Q)) : tLc (iList K tl) g tt te vs σ H Q := h
/-- over a range, all kept; what each is: el -/
theorem g_kLcR {z : Int} {n : Nat} (hz : z = (n : Int)) (hn : n ≤ 50000) (el : Nat → V → Hp → Prop) (hw : ∀ x, wipe ((wipe σ vs).set j (some x)) vs = wipe σ vs)
    (he : ∀ i H' (Q' : VK), i < n → Same H H' → (∀ v H'', Same H' H'' → (∀ B, Nu H' H'' B → Same H B → el i v B) → Q' v H'') → te ((wipe σ vs).set j (some (.int (i : Int)))) H' Q')
    (k : ∀ q H' ys, H q = none → Same H H' → H' q = some (.lst ys) → ys.length = n → (∀ (i : Nat) v, ys[i]? = some v → el i v H') → Q (.ref q) H') : kLcR (gName j) tYes te vs σ Q [.int z] H := by
  subst hz
  refine ⟨(n : Int), rfl, by omega, by omega, fun D hD => ?_⟩
  rw [show ((n : Int)).toNat = n from rfl]
  refine lc_range (lo := 0) (n := n) (fun i H' => Same H H' ∧ ∃ ys, H' D = some (.lst ys) ∧ ys.length = i ∧ ∀ k v, ys[k]? = some v → ∀ B, (∀ b o, b ≠ D → H' b = some o → B b = some o) → Same H B → el k v B)
    ⟨same_new hD, [], upd_same, rfl, fun k v h => by simp at h⟩ (fun i H' hi hP => ?_) (fun H' hP => ?_)
  · obtain ⟨s, ys, e, l, a⟩ := hP
    rw [Int.zero_add]
    show wipe ((wipe σ vs).set j (some (.int (i : Int)))) vs = wipe σ vs ∧ te ((wipe σ vs).set j (some (.int (i : Int)))) H' _
    refine ⟨hw _, he i H' _ hi s fun v H'' s2 hv => ⟨ys, s2 _ _ e, szl (by omega), Same.mutd (Same.via s s2) mv_upd hD, ys ++ [v], upd_same, by rw [List.length_append, List.length_singleton, l], fun k u hk B hB sB => ?_⟩⟩
    by_cases hkl : k < ys.length
    · rw [List.getElem?_append_left hkl] at hk
      exact a k u hk B (fun b o hb h => hB b o hb (by rw [upd_ne hb]; exact s2 _ _ h)) sB
    · have hk2 : k = i := by
        have := (List.getElem?_eq_some_iff.mp hk).1
        rw [List.length_append, List.length_singleton] at this
        omega
      subst hk2
      rw [List.getElem?_append_right (by omega), l, Nat.sub_self] at hk
      have eu : v = u := Option.some.inj hk
      subst eu
      refine hv B (fun b o hn ho => hB b o (fun z => by rw [z, e] at hn; cases hn) ?_) sB
      rw [upd_ne (fun z => by rw [z, e] at hn; cases hn)]
      exact ho
  · obtain ⟨s, ys, e, l, a⟩ := hP
    exact k D H' ys hD s e l fun i v h => a i v h H' (fun _ _ _ h => h) s
/-- over a list, all kept -/
theorem g_kLcL (hx : SqL K H p xs) (hn : xs.length ≤ 50000) (el : Nat → V → Hp → Prop) (hw : ∀ x, wipe ((wipe σ vs).set j (some x)) vs = wipe σ vs)
    (he : ∀ (i : Nat) (x : V) H' (Q' : VK), xs[i]? = some x → Same H H' → (∀ v H'', Same H' H'' → (∀ B, Nu H' H'' B → Same H B → el i v B) → Q' v H'') → te ((wipe σ vs).set j (some x)) H' Q')
    (k : ∀ q H' ys, H q = none → Same H H' → H' q = some (.lst ys) → ys.length = xs.length → (∀ (i : Nat) v, ys[i]? = some v → el i v H') → Q (.ref q) H') : kLcL K (gName j) tYes te vs σ Q (.ref p) H := by
  refine ⟨p, rfl, ⟨xs, hx⟩, fun D hD => ?_⟩
  refine lc_list (K := K) (a := p) (xs := xs) (fun i H' => Same H H' ∧ ∃ ys, H' D = some (.lst ys) ∧ ys.length = i ∧ ∀ k v, ys[k]? = some v → ∀ B, (∀ b o, b ≠ D → H' b = some o → B b = some o) → Same H B → el k v B)
    ⟨same_new hD, [], upd_same, rfl, fun k v h => by simp at h⟩ (fun i H' _ hP => seqL hP.1 hx) (fun i x H' hi hP => ?_) (fun H' hP => ?_)
  · obtain ⟨s, ys, e, l, a⟩ := hP
    have hil := (List.getElem?_eq_some_iff.mp hi).1
    show wipe ((wipe σ vs).set j (some x)) vs = wipe σ vs ∧ te ((wipe σ vs).set j (some x)) H' _
    refine ⟨hw _, he i x H' _ hi s fun v H'' s2 hv => ⟨ys, s2 _ _ e, szl (by omega), Same.mutd (Same.via s s2) mv_upd hD, ys ++ [v], upd_same, by rw [List.length_append, List.length_singleton, l], fun k u hk B hB sB => ?_⟩⟩
    by_cases hkl : k < ys.length
    · rw [List.getElem?_append_left hkl] at hk
      exact a k u hk B (fun b o hb h => hB b o hb (by rw [upd_ne hb]; exact s2 _ _ h)) sB
    · have hk2 : k = i := by
        have := (List.getElem?_eq_some_iff.mp hk).1
        rw [List.length_append, List.length_singleton] at this
        omega
      subst hk2
      rw [List.getElem?_append_right (by omega), l, Nat.sub_self] at hk
      have eu : v = u := Option.some.inj hk
      subst eu
      refine hv B (fun b o hn ho => hB b o (fun z => by rw [z, e] at hn; cases hn) ?_) sB
      rw [upd_ne (fun z => by rw [z, e] at hn; cases hn)]
      exact ho
  · obtain ⟨s, ys, e, l, a⟩ := hP
    exact k D H' ys hD s e l fun i v h => a i v h H' (fun _ _ _ h => h) s
theorem map_ext_get {α β : Type} {xs : List α} {ys : List β} {f : α → β} (hl : ys.length = xs.length) (h : ∀ (i : Nat) (y : β), ys[i]? = some y → ∃ x, xs[i]? = some x ∧ y = f x) : ys = xs.map f := by
  refine List.ext_getElem? fun i => ?_
  rw [List.getElem?_map]
  cases e : ys[i]? with
  | none =>
    rw [List.getElem?_eq_none (by have := List.getElem?_eq_none_iff.mp e; omega)] <;> rfl
  | some y =>
    obtain ⟨x, h1, h2⟩ := h i y e
    rw [h1, h2] <;> rfl
/-- over a list, values told by the item alone -/
theorem g_kLcLV (f : V → V) (hx : SqL K H p xs) (hn : xs.length ≤ 50000) (hw : ∀ x, wipe ((wipe σ vs).set j (some x)) vs = wipe σ vs)
    (he : ∀ (i : Nat) (x : V) H' (Q' : VK), xs[i]? = some x → Same H H' → (∀ H'', Same H' H'' → Q' (f x) H'') → te ((wipe σ vs).set j (some x)) H' Q')
    (k : ∀ q H', H q = none → Same H H' → H' q = some (.lst (xs.map f)) → Q (.ref q) H') : kLcL K (gName j) tYes te vs σ Q (.ref p) H :=
  g_kLcL hx hn (fun i v _ => ∃ x, xs[i]? = some x ∧ v = f x) hw (fun i x H' Q' hi s q => he i x H' Q' hi s fun H'' s2 => q _ _ s2 fun _ _ _ => ⟨x, hi, rfl⟩)
    fun q H' ys h1 h2 h3 h4 h5 => k q H' h1 h2 (by rw [← map_ext_get h4 h5]; exact h3)
theorem g_kLcRV {z : Int} {n : Nat} (f : Nat → V) (hz : z = (n : Int)) (hn : n ≤ 50000) (hw : ∀ x, wipe ((wipe σ vs).set j (some x)) vs = wipe σ vs)
    (he : ∀ i H' (Q' : VK), i < n → Same H H' → (∀ H'', Same H' H'' → Q' (f i) H'') → te ((wipe σ vs).set j (some (.int (i : Int)))) H' Q')
    (k : ∀ q H', H q = none → Same H H' → H' q = some (.lst ((List.range n).map f)) → Q (.ref q) H') : kLcR (gName j) tYes te vs σ Q [.int z] H :=
  g_kLcR hz hn (fun i v _ => v = f i) hw (fun i H' Q' hi s q => he i H' Q' hi s fun H'' s2 => q _ _ s2 fun _ _ _ => rfl)
    fun q H' ys h1 h2 h3 h4 h5 => k q H' h1 h2 (by
      rw [← map_ext_get (xs := List.range n) (by rw [List.length_range]; exact h4) fun i y e => ⟨i, by
        have hi := (List.getElem?_eq_some_iff.mp e).1
        rw [List.getElem?_eq_getElem (by rw [List.length_range]; omega), List.getElem_range], h5 i y e⟩]
      exact h3)
/-- over a list, some kept: values and tests told by the item alone -/
theorem g_kLcLF (b : V → Bool) (f : V → V) (hx : SqL K H p xs) (hn : xs.length ≤ 50000) (hw : ∀ x, wipe ((wipe σ vs).set j (some x)) vs = wipe σ vs)
    (ht : ∀ (i : Nat) (x : V) H' (Q' : Bool → Hp → Prop), xs[i]? = some x → Same H H' → (∀ H'', Same H' H'' → Q' (b x) H'') → tt ((wipe σ vs).set j (some x)) H' Q')
    (he : ∀ (i : Nat) (x : V) H' (Q' : VK), xs[i]? = some x → b x = true → Same H H' → (∀ H'', Same H' H'' → Q' (f x) H'') → te ((wipe σ vs).set j (some x)) H' Q')
    (k : ∀ q H', H q = none → Same H H' → H' q = some (.lst ((xs.filter b).map f)) → Q (.ref q) H') : kLcL K (gName j) tt te vs σ Q (.ref p) H := by
  refine ⟨p, rfl, ⟨xs, hx⟩, fun D hD => ?_⟩
  refine lc_list (K := K) (a := p) (xs := xs) (fun i H' => Same H H' ∧ H' D = some (.lst (((xs.take i).filter b).map f)))
    ⟨same_new hD, by rw [List.take_zero]; exact upd_same⟩ (fun i H' _ hP => seqL hP.1 hx) (fun i x H' hi hP => ?_) (fun H' hP => ?_)
  · obtain ⟨s, e⟩ := hP
    have hil := (List.getElem?_eq_some_iff.mp hi).1
    have ht1 : xs.take (i + 1) = xs.take i ++ [x] := by rw [List.take_add_one, hi] <;> rfl
    show wipe ((wipe σ vs).set j (some x)) vs = wipe σ vs ∧ tt ((wipe σ vs).set j (some x)) H' _
    refine ⟨hw _, ht i x H' _ hi s fun H2 s2 => ?_⟩
    cases hb : b x with
    | true =>
      refine he i x H2 _ hi hb (Same.via s s2) fun H3 s3 => ⟨_, s3 _ _ (s2 _ _ e), szl ?_, Same.mutd (Same.via s (Same.via s2 s3)) mv_upd hD, ?_⟩
      · rw [List.length_map]
        have := List.length_filter_le b (xs.take i)
        rw [List.length_take] at this
        omega
      · rw [upd_same, ht1, List.filter_append, List.map_append, List.filter_cons, if_pos hb] <;> rfl
    | false =>
      show Same H H2 ∧ H2 D = some (.lst (((xs.take (i + 1)).filter b).map f))
      refine ⟨Same.via s s2, ?_⟩
      rw [ht1, List.filter_append, List.map_append, List.filter_cons, if_neg (by rw [hb]; exact Bool.false_ne_true), List.filter_nil, List.map_nil, List.append_nil]
      exact s2 _ _ e
  · obtain ⟨s, e⟩ := hP
    rw [List.take_length] at e
    exact k D H' hD s e
end
end Wk
/-! defs as they stand, their promises, their calls -/
namespace Wk
open PySem PySem.Spec PyProof.Rows L2
/-- the def x of the top -/
def DefAt (K : PySem.W.Frag) (mg : Str → Option Value) (x : Str) (st : Stmt) : Prop := ∃ f fd, Fun K x x st f fd ∧ mg x = some (.ref f)
/-- a method (or __init__) at f -/
def MetAt (K : PySem.W.Frag) (x qual : Str) (st : Stmt) (f : Addr) : Prop := ∃ fd, Fun K x qual st f fd
/-- a def that keeps its promise, ready for a call -/
def Rd (P : Program) (w : World) (K : PySem.W.Frag) (mg : Str → Option Value) (base : Heap) (CX : CXT) (k : Nat) (x : Str) (ps : List Str) (sp : Sp) : Prop :=
  ∃ f fd, FnOk P w K mg base CX k f fd ps sp ∧ mg x = some (.ref f) ∧ PySem.W.keepIn K (.ref f) = true ∧ Binds K fd ps []
/-- a method that keeps its promise -/
def Rm (P : Program) (w : World) (K : PySem.W.Frag) (mg : Str → Option Value) (base : Heap) (CX : CXT) (k : Nat) (f : Addr) (ps : List Str) (sp : Sp) : Prop :=
  ∃ fd, FnOk P w K mg base CX k f fd ps sp ∧ Binds K fd ps []
section
variable {P : Program} {w : World} {K : PySem.W.Frag} {mg : Str → Option Value} {base : Heap}
abbrev HB (x qual : Str) (st : Stmt) (ps : List Str) : Prop := ∀ (kV doc pm : Value) (an : Option Addr) (cdv ct : Value) (us : List Value), us.length = ps.length → bindArgs (PySem.W.fnOf x qual (defArgs st) (defBody st) (defScope st) .none kV doc pm an cdv ct) ⟨us, []⟩ = pure (ps.zip us)
theorem DefAt.ok {x : Str} {st : Stmt} {N ps : List Str} {k : Nat} {sp : Sp} (D : DefAt K mg x st) (S : FnScope N ps (defScope st)) (hb : HB x x st ps) (len : ∀ vs H Q E, sp vs H Q E → vs.length = ps.length)
    (body : ∀ (f : Addr) (cdv : Value) (A : Around) (outer : List Env) (s : Shared) (H : Hp) (vs : List V) (Q : VK) (E : XK), Room k (A.deeper (envOfC x (defScope st) s.heap.objs.size f cdv)) → sp vs H Q E →
      ∃ t, PSs (cxOf CX0 P w K mg base N x (defScope st) f cdv A outer s H E).nox (defBody st) t ∧ t ⟨fun _ H' => Q .non H', Q, fun _ _ => False, fun _ _ => False⟩ (start N vs) H) : Rd P w K mg base CX0 (k + 1) x ps sp := by
  obtain ⟨f, fd, F, g⟩ := D
  exact ⟨f, fd, F.ok S len fun cdv A outer s H vs Q E hr h => body f cdv A outer s H vs Q E hr h, g, F.kp, F.binds hb⟩
theorem DefAt.okX {x : Str} {st : Stmt} {N ps : List Str} {k : Nat} {sp : Sp} (D : DefAt K mg x st) (S : FnScope N ps (defScope st)) (hb : HB x x st ps) (len : ∀ vs H Q E, sp vs H Q E → vs.length = ps.length)
    (body : ∀ (f : Addr) (cdv : Value) (A : Around) (outer : List Env) (s : Shared) (H : Hp) (vs : List V) (Q : VK) (E : XK), Room k (A.deeper (envOfC x (defScope st) s.heap.objs.size f cdv)) → sp vs H Q E →
      ∃ t, PSs (cxOf (L2.CX P w) P w K mg base N x (defScope st) f cdv A outer s H E) (defBody st) t ∧ t ⟨fun _ H' => Q .non H', Q, fun _ _ => False, fun _ _ => False⟩ (start N vs) H) : Rd P w K mg base (L2.CX P w) (k + 1) x ps sp := by
  obtain ⟨f, fd, F, g⟩ := D
  exact ⟨f, fd, F.okX S len fun cdv A outer s H vs Q E hr h => body f cdv A outer s H vs Q E hr h, g, F.kp, F.binds hb⟩
theorem MetAt.ok {x qual : Str} {st : Stmt} {f : Addr} {N ps : List Str} {k : Nat} {sp : Sp} (D : MetAt K x qual st f) (S : FnScope N ps (defScope st)) (hb : HB x qual st ps) (len : ∀ vs H Q E, sp vs H Q E → vs.length = ps.length)
    (body : ∀ (cdv : Value) (A : Around) (outer : List Env) (s : Shared) (H : Hp) (vs : List V) (Q : VK) (E : XK), Room k (A.deeper (envOfC qual (defScope st) s.heap.objs.size f cdv)) → sp vs H Q E →
      ∃ t, PSs (cxOf CX0 P w K mg base N qual (defScope st) f cdv A outer s H E).nox (defBody st) t ∧ t ⟨fun _ H' => Q .non H', Q, fun _ _ => False, fun _ _ => False⟩ (start N vs) H) : Rm P w K mg base CX0 (k + 1) f ps sp := by
  obtain ⟨fd, F⟩ := D
  exact ⟨fd, F.ok S len fun cdv A outer s H vs Q E hr h => body cdv A outer s H vs Q E hr h, F.binds hb⟩
theorem MetAt.okX {x qual : Str} {st : Stmt} {f : Addr} {N ps : List Str} {k : Nat} {sp : Sp} (D : MetAt K x qual st f) (S : FnScope N ps (defScope st)) (hb : HB x qual st ps) (len : ∀ vs H Q E, sp vs H Q E → vs.length = ps.length)
    (body : ∀ (cdv : Value) (A : Around) (outer : List Env) (s : Shared) (H : Hp) (vs : List V) (Q : VK) (E : XK), Room k (A.deeper (envOfC qual (defScope st) s.heap.objs.size f cdv)) → sp vs H Q E →
      ∃ t, PSs (cxOf (L2.CX P w) P w K mg base N qual (defScope st) f cdv A outer s H E) (defBody st) t ∧ t ⟨fun _ H' => Q .non H', Q, fun _ _ => False, fun _ _ => False⟩ (start N vs) H) : Rm P w K mg base (L2.CX P w) (k + 1) f ps sp := by
  obtain ⟨fd, F⟩ := D
  exact ⟨fd, F.okX S len fun cdv A outer s H vs Q E hr h => body cdv A outer s H vs Q E hr h, F.binds hb⟩
/-- the law itself -/
theorem fun_ok {x : Str} {st : Stmt} {f : Addr} {fd : FuncData} {N ps : List Str} {k : Nat} {sp : Sp} (F : Fun K x x st f fd) (S : FnScope N ps (defScope st)) (len : ∀ vs H Q E, sp vs H Q E → vs.length = ps.length)
    (body : ∀ (cdv : Value) (A : Around) (outer : List Env) (s : Shared) (H : Hp) (vs : List V) (Q : VK) (E : XK), Room k (A.deeper (envOfC x (defScope st) s.heap.objs.size f cdv)) → sp vs H Q E →
      ∃ t, PSs (cxOf CX0 P w K mg base N x (defScope st) f cdv A outer s H E).nox (defBody st) t ∧ t ⟨fun _ H' => Q .non H', Q, fun _ _ => False, fun _ _ => False⟩ (start N vs) H) : FnOk P w K mg base CX0 (k + 1) f fd ps sp :=
  F.ok S len fun cdv A outer s H vs Q E hr h => body cdv A outer s H vs Q E hr h
/-- a promise weakened -/
theorem Rd.imp {CX : CXT} {k : Nat} {x : Str} {ps : List Str} {sp sp' : Sp} (R : Rd P w K mg base CX k x ps sp) (h : ∀ vs H Q E, sp' vs H Q E → sp vs H Q E) : Rd P w K mg base CX k x ps sp' := by
  obtain ⟨f, fd, F, g, kp, b⟩ := R
  exact ⟨f, fd, F.imp h, g, kp, b⟩
/-- what the top leaves of a def -/
theorem defAt_mk {x : Str} {st : Stmt} {h : Heap} (X : K.In h) (G : h.Ns mainGlobals mg) {f : Addr} {oc : Value} {od an : Option Addr} {osl : Array (Option Value)} {kV doc pm cdv ct : Value}
    (a : PySem.W.nsIn K mainGlobals x = some (some (.ref f))) (l : K.lookup f = some ⟨oc, od, .func (PySem.W.fnOf x x (defArgs st) (defBody st) (defScope st) .none kV doc pm an cdv ct), osl⟩)
    (c : PySem.W.codeIn K cdv x = true) (k : PySem.W.keepIn K (.ref f) = true) : DefAt K mg x st := ⟨f, _, fun_mk l c k, PySem.W.mg_of X G a⟩
theorem metAt_mk {x qual : Str} {st : Stmt} {f : Addr} {oc : Value} {od an : Option Addr} {osl : Array (Option Value)} {kV doc pm cdv ct : Value}
    (l : K.lookup f = some ⟨oc, od, .func (PySem.W.fnOf x qual (defArgs st) (defBody st) (defScope st) .none kV doc pm an cdv ct), osl⟩)
    (c : PySem.W.codeIn K cdv qual = true) (k : PySem.W.keepIn K (.ref f) = true) : MetAt K x qual st f := ⟨_, fun_mk l c k⟩
end
section
variable {X : Cx} {CX : CXT} {k : Nat} {f C : Addr} {ps : List Str} {sp : Sp} {E : XK} {x m : Str} {p pos apos : Pos} {e o : Expr} {es : List Expr} {ta : TE} {t : TA}
theorem pe_callR (R : Rd X.prog X.w X.K X.mg X.base CX k x ps sp) (hr : Room k X.A) (hg : Gl X x) (hx : Passes CX X E) (ha : PA X (e :: es) t) (hdb : (x == ("__debug__" : Str)) = false := by decide)
    (he : starEach (e :: es) X.env = (false, eval e X.env) :: starEach es X.env := by rfl) (hpl : (backTo pos (starEach es X.env)).any (·.1) = false := by rfl) :
    PE X (.Call (.Name x p) (e :: es) [] pos) (tCall sp [] E t) := by
  obtain ⟨f, fd, F, g, kp, b⟩ := R
  exact pe_call F hr hg g kp b .nil hx ha hdb he hpl
theorem pe_callR0 (R : Rd X.prog X.w X.K X.mg X.base CX k x ps sp) (hr : Room k X.A) (hg : Gl X x) (hx : Passes CX X E) (hdb : (x == ("__debug__" : Str)) = false := by decide) : PE X (.Call (.Name x p) [] [] pos) (tCall sp [] E tNil) := by
  obtain ⟨f, fd, F, g, kp, b⟩ := R
  exact pe_call0 F hr hg g kp b .nil hx hdb
theorem pe_makeR (M : Mk X.K C f) (R : Rm X.prog X.w X.K X.mg X.base CX k f ps sp) (hr : Room (k + 1) X.A) (hg : Gl X x) (hm : X.mg x = some (.ref C)) (hx : Passes CX X E) (ha : PA X (e :: es) t) (hdb : (x == ("__debug__" : Str)) = false := by decide)
    (he : starEach (e :: es) X.env = (false, eval e X.env) :: starEach es X.env := by rfl) (hpl : (backTo pos (starEach es X.env)).any (·.1) = false := by rfl) :
    PE X (.Call (.Name x p) (e :: es) [] pos) (tMake C sp [] E t) := by
  obtain ⟨fd, F, b⟩ := R
  exact pe_make M F hr hg hm b .nil hx ha hdb he hpl
end

section
variable {CX : CXT} {P : Program} {w : World} {K : PySem.W.Frag} {mg : Str → Option Value} {base : Heap} {N : List Str} {qual : Str} {scope : Scope} {f : Addr} {cd : Value} {A : Around} {outer : List Env} {s : Shared} {H : Hp} {E : XK}
theorem cxK : (cxOf CX P w K mg base N qual scope f cd A outer s H E).K = K := rfl
theorem cxKn : (cxOf CX P w K mg base N qual scope f cd A outer s H E).nox.K = K := rfl
theorem cxW : (cxOf CX P w K mg base N qual scope f cd A outer s H E).w = w := rfl
theorem cxWn : (cxOf CX P w K mg base N qual scope f cd A outer s H E).nox.w = w := rfl
theorem cxP : (cxOf CX P w K mg base N qual scope f cd A outer s H E).prog = P := rfl
theorem cxPn : (cxOf CX P w K mg base N qual scope f cd A outer s H E).nox.prog = P := rfl
end
/-- the law's end -/
theorem law_end {l : PySem.W.OpenLaw} {w : World} {K : PySem.W.Frag} {h : Heap} {mg : Str → Option Value} {fa f : Addr} {k : Nat} {sp : Sp} {st : Stmt} (X : K.In h) (G : h.Ns mainGlobals mg) (hfa : mg "law" = some (.ref fa))
    {oc : Value} {od an : Option Addr} {osl : Array (Option Value)} {kV doc pm cdv ct : Value}
    (main : ∀ (base : Heap) (fd : FuncData), Fun K "law" "law" st f fd → FnOk l.prog w K mg base CX0 k f fd ["script"] sp)
    (hb : ∀ (s : Shared) (v : Value), BindsTo s (PySem.W.fnOf "law" "law" (defArgs st) (defBody st) (defScope st) .none kV doc pm an cdv ct) ⟨[v], []⟩ [("script", v)])
    (a : PySem.W.nsIn K mainGlobals "law" = some (some (.ref f))) (lk : K.lookup f = some ⟨oc, od, .func (PySem.W.fnOf "law" "law" (defArgs st) (defBody st) (defScope st) .none kV doc pm an cdv ct), osl⟩)
    (c : PySem.W.codeIn K cdv "law" = true) (kp : PySem.W.keepIn K (.ref f) = true) :
    ∃ fd : FuncData, (∀ (s : Shared) (v : Value), BindsTo s fd ⟨[v], []⟩ [("script", v)]) ∧ ∀ base : Heap, K.In base → base.Ns mainGlobals mg → FnOk l.prog w K mg base CX0 k fa fd ["script"] sp := by
  have e := hfa.symm.trans (PySem.W.mg_of X G a)
  cases e
  exact ⟨_, hb, fun base _ _ => main base _ (fun_mk lk c kp)⟩
/-! ### built-ins' names -/
structure Bt (mg : Str → Option Value) : Prop where
  len : mg "len" = none
  range : mg "range" = none
  list : mg "list" = none
  set : mg "set" = none
  sorted : mg "sorted" = none
  isinstance : mg "isinstance" = none
  int : mg "int" = none
  str : mg "str" = none
  bool : mg "bool" = none
  tuple : mg "tuple" = none
  max : mg "max" = none
  min : mg "min" = none
  sum : mg "sum" = none
  all : mg "all" = none
  reversed : mg "reversed" = none
  dict : mg "dict" = none
  ValueError : mg "ValueError" = none

/-! ### the class of lines -/
structure LineC (K : PySem.W.Frag) (mg : Str → Option Value) (C f : Addr) : Prop where
  cl : Cls K C
  nC : NoAttr K C "cuts"
  nH : NoAttr K C "holds"
  mgC : mg "Line" = some (.ref C)
  made : Mk K C f
  ha : PySem.W.findIn K (.ref C) "__class__" = some (some (.builtin "object.__class__"))
  hn : PySem.W.specialIn K (.builtin "object.__class__") "__get__" = some (some (.builtin "getset_descriptor.__get__"))
  htk : PySem.W.takesIn K (.builtin "object.__class__") = some true
  hm : PySem.W.mroIn K C (.type "object") = some true
  ki : PySem.W.kitOne K (.ref C) (.ref C) = some true
theorem line_mk {K : PySem.W.Frag} {mg : Str → Option Value} {h : Heap} {st : Stmt} (X : K.In h) (G : h.Ns mainGlobals mg) {C f : Addr} {oc : Value} {od an : Option Addr} {osl : Array (Option Value)} {kV doc pm cdv ct : Value}
    (aC : PySem.W.nsIn K mainGlobals "Line" = some (some (.ref C)))
    (i1 : PySem.W.findIn K (.ref C) "__init__" = some (some (.ref f))) (f1 : PySem.W.isFn K (.ref f) = true) (l1 : K.lookup f = some ⟨oc, od, .func (PySem.W.fnOf "__init__" "Line.__init__" (defArgs st) (defBody st) (defScope st) .none kV doc pm an cdv ct), osl⟩)
    (c1 : PySem.W.codeIn K cdv "Line.__init__" = true) (k1 : PySem.W.keepIn K (.ref f) = true) (pg : PySem.W.plainGet K C Str.empty = true) (hd : PySem.W.hasDictIn K C = true) (po : PySem.W.plainOver K C = true)
    (sa : PySem.W.findIn K (.ref C) "__setattr__" = some (some (.builtin "object.__setattr__"))) (nC : PySem.W.findIn K (.ref C) "cuts" = some none) (nH : PySem.W.findIn K (.ref C) "holds" = some none) (mk : PySem.W.makesIn K C = true) (kC : PySem.W.keepIn K (.ref C) = true)
    (ha : PySem.W.findIn K (.ref C) "__class__" = some (some (.builtin "object.__class__"))) (hn : PySem.W.specialIn K (.builtin "object.__class__") "__get__" = some (some (.builtin "getset_descriptor.__get__")))
    (htk : PySem.W.takesIn K (.builtin "object.__class__") = some true) (hm : PySem.W.mroIn K C (.type "object") = some true) :
    ∃ C f, LineC K mg C f ∧ MetAt K "__init__" "Line.__init__" st f := ⟨C, f, ⟨⟨pg, hd, po, sa⟩, nC, nH, PySem.W.mg_of X G aC, ⟨mk, i1, f1, kC⟩, ha, hn, htk, hm, if_pos (beq_self_eq_true _)⟩, metAt_mk l1 c1 k1⟩
abbrev LineEx {K : PySem.W.Frag} {h : Heap} (_ : K.In h) (mg : Str → Option Value) (st : Stmt) : Prop := ∃ C f, LineC K mg C f ∧ MetAt K "__init__" "Line.__init__" st f
abbrev DefEx {K : PySem.W.Frag} {h : Heap} (_ : K.In h) (mg : Str → Option Value) (x : Str) (st : Stmt) : Prop := DefAt K mg x st
def lineFs (lc lh : Addr) : List (Str × V) := [("cuts", .ref lc), ("holds", .ref lh)]
theorem ch_ : ¬ (("cuts" : Str) = "holds") := by decide +kernel
theorem hc_ : ¬ (("holds" : Str) = "cuts") := by decide +kernel
theorem lf_cuts (lc lh : Addr) : (lineFs lc lh).lookup ("cuts" : Str) = some (.ref lc) := by
  unfold lineFs
  rw [List.lookup_cons]
  have e : (("cuts" : Str) == ("cuts" : Str)) = true := by decide +kernel
  rw [e]
theorem lf_holds (lc lh : Addr) : (lineFs lc lh).lookup ("holds" : Str) = some (.ref lh) := by
  unfold lineFs
  rw [List.lookup_cons]
  have e : (("holds" : Str) == ("cuts" : Str)) = false := by decide +kernel
  rw [e, List.lookup_cons]
  have e2 : (("holds" : Str) == ("holds" : Str)) = true := by decide +kernel
  rw [e2]
theorem lf_put (lc lh : Addr) : putF "holds" (.ref lh) (putF "cuts" (.ref lc) []) = lineFs lc lh := by
  show (if ("cuts" : Str) = "holds" then _ else (("cuts" : Str), V.ref lc) :: putF "holds" (V.ref lh) []) = lineFs lc lh
  rw [if_neg ch_] <;> rfl
/-- a line stands at p: its cuts, its holds (lists of its own) -/
def LineAt (C : Addr) (H : Hp) (p : Addr) (cs : List Int) (hs : List V) : Prop :=
  ∃ dx lc lh, H p = some (.ins C dx (lineFs lc lh)) ∧ H lc = some (.lst (cs.map V.int)) ∧ H lh = some (.lst hs)
theorem LineAt.same {C : Addr} {H H' : Hp} {p : Addr} {cs : List Int} {hs : List V} (s : Same H H') (h : LineAt C H p cs hs) : LineAt C H' p cs hs := by
  obtain ⟨dx, lc, lh, a, b, c⟩ := h
  exact ⟨dx, lc, lh, s _ _ a, s _ _ b, s _ _ c⟩
/-- C(..), two arguments -/
def kMake (C : Addr) (sp : Sp) (E : XK) (Q : VK) (vs : List V) (H : Hp) : Prop := ∀ x dx, H x = none → H dx = none → dx ≠ x → sp (.ref x :: (vs ++ [])) (upd (upd H dx (.own x)) x (.ins C dx [])) (fun v H2 => v = .non ∧ Q (.ref x) H2) E
theorem g_make {C : Addr} {sp : Sp} {E : XK} {t : TA} {σ : L2.St} {H : Hp} {Q : VK} (h : t σ H (kMake C sp E Q)) : tMake C sp [] E t σ H Q := h
section
variable {K : PySem.W.Frag} {mg : Str → Option Value} {C f : Addr} {H : Hp} {Q : VK} {p : Addr} {cs : List Int} {hs : List V}
theorem g_cuts (L : LineC K mg C f) (h : LineAt C H p cs hs) (k : ∀ lc, H lc = some (.lst (cs.map V.int)) → Q (.ref lc) H) : kFld K "cuts" Q (.ref p) H := by
  obtain ⟨dx, lc, lh, a, b, c⟩ := h
  exact ⟨p, C, dx, _, _, rfl, a, L.cl, L.nC, lf_cuts lc lh, k lc b⟩
theorem g_holds (L : LineC K mg C f) (h : LineAt C H p cs hs) (k : ∀ lh, H lh = some (.lst hs) → Q (.ref lh) H) : kFld K "holds" Q (.ref p) H := by
  obtain ⟨dx, lc, lh, a, b, c⟩ := h
  exact ⟨p, C, dx, _, _, rfl, a, L.cl, L.nH, lf_holds lc lh, k lh c⟩
theorem g_isiC (L : LineC K mg C f) (h : LineAt C H p cs hs) (k : Q (.bl true) H) : rIsi K [.ref p, .ref C] H Q := by
  obtain ⟨dx, lc, lh, a, b, c⟩ := h
  exact ⟨_, _, _, _, true, rfl, .own C, .base (.ins a L.cl L.ha L.hn L.htk L.hm), L.ki, k⟩
end
end Wk
/-! set(xs) of a list of ints of any length, sorted of it; other rules that the layer has not -/
namespace Wk
open PySem PySem.Spec PyProof.Rows L2
section
variable {P : Program} {w : World} {A : Around} {E : Value → Shared → Prop} {s : Shared}
/-- a set as it is made -/
abbrev newSet (w : World) : Obj := { cls := .type "set", dict := none, data := .set #[] 0 (.fresh 0 0 (!w.params.followText "set-order")) }
set_option maxHeartbeats 4000000 in
theorem set_of_list {l : Addr} {items : Array Value} (ns : List Int) {Q : Value → Shared → Prop} (hh : A.handled = none) (hl : s.heap.IsList l items) (hit : IntsAre items.toList ns) (hb : ns.length + 1 < scanBound)
    (h : ∀ (h' : Heap) (tk c : Nat), SetR w h' s.heap.objs.size (fun j => decide (j ∈ ns)) c → c ≤ ns.length → (∀ b o, s.heap.get? b = some o → h'.get? b = some o) → Q (.ref s.heap.objs.size) { s with heap := h', toks := tk }) :
    wpAny (model P w) A (call (.type "set") [.ref l]) Q E s := by
  have hisz : items.size = ns.length := by have q := IntsAre.length hit; rw [Array.length_toList] at q; exact q
  obtain ⟨c, tl, hmro⟩ := F.called_set.mro; have hmade := F.called_set.made; have hsub := F.called_set.sub
  refine wpAny_call (codeAny_of_tree ?_); show wpAny _ _ (callAny (.type "set") _) _ _ _
  refine wpAny_pure ⟨Code.quiet_builtin _ (by decide +kernel), codeAny_builtin F.entry_type_call ?_⟩; rw [Around.under_plain (weight_type_call_type "set" [.ref l] []) rfl]
  have h1 := F.called_set.notType; have h2 := F.called_set.canCreate; have hct := F.typeCall_set_1 (.ref l)
  repeat (any_goals (first | assumption | wp_step))
  refine codeAny_mono (code_set_led1 (.ref l) (E := E) (Q₁ := fun obj s1 => obj = .ref s.heap.objs.size ∧ s1 = { s with heap := s.heap.push (newSet w) }) ⟨rfl, rfl⟩) fun r s1 hr => ?_
  cases r with
  | error e => exact hr
  | ok fl =>
    cases fl with
    | ret obj =>
      obtain ⟨rfl, rfl⟩ := hr
      have hS : (s.heap.push (newSet w)).get? s.heap.objs.size = some (newSet w) := Heap.get?_push_size _ rfl
      have hT : Shared.TypeIs { s with heap := s.heap.push (newSet w) } (.ref s.heap.objs.size) "set" := ⟨_, hS, rfl⟩
      have hli := F.called_set.init.lookup; have hbi := F.called_set.init.bind (.ref s.heap.objs.size)
      repeat (any_goals (first | assumption | wp_step))
      refine codeAny_mono (codeAny_call_builtin (R := wants (fun r s2 => r = .none ∧ ∃ h' tk c, s2 = { s with heap := h', toks := tk } ∧ SetR w h' s.heap.objs.size (fun j => decide (j ∈ ns)) c ∧ c ≤ ns.length ∧
          (∀ b o, s.heap.get? b = some o → h'.get? b = some o)) E) F.called_set.init.plain F.entry_set_init (check_set_init_1 hT ?_)) fun r2 s2 hr2 => ?_
      · obtain ⟨ol, hol, hcl, nl, hdl⟩ := hl
        obtain ⟨ocls, odict, odata, oslots⟩ := ol
        simp only at hcl hdl; subst hcl; subst hdl
        have hol' : (s.heap.push (newSet w)).get? l = some { cls := .type "list", dict := odict, data := .seq items nl, slots := oslots } := Heap.get?_push_of_some _ hol
        have hsls := F.sub_list_set; have hslf := F.sub_list_frozenset
        have hne : (Value.type "list" == Value.type "dict") = false := by decide
        have hl1 : (s.heap.push (newSet w)).IsList l items := ⟨_, hol', rfl, nl, rfl⟩
        unfold Builtin.«set.__init__» noKeywords Builtin.Frozenset.updateFrom; generalize hPI : pyIter = PI
        wp_walk
        subst hPI
        refine wpAny_pyIter_list hl1 ?_; refine wpAny_bind (wpAny_runValue ?_)
        have hlS : l < s.heap.objs.size := Heap.lt_size hol
        have hh3 : A.in1.in1.in1.handled = none := by simp [hh]
        have hz1 : (s.heap.push (newSet w)).objs.size = s.heap.objs.size + 1 := Heap.size_push ..
        have hneI : l ≠ (s.heap.push (newSet w)).objs.size := by rw [hz1]; exact Nat.ne_of_lt (Nat.lt_succ_of_lt hlS)
        have hSf : s.heap.objs.size ∉ [(s.heap.push (newSet w)).objs.size, l] := by
          rw [hz1]; simp only [List.mem_cons, List.not_mem_nil, or_false, not_or]; exact ⟨Nat.ne_of_lt (Nat.lt_succ_self _), Nat.ne_of_gt hlS⟩
        have hval : ∀ (i : Nat) (v : Value), items[i]? = some v → ∃ k t, ns[i]? = some k ∧ v = .int k t := fun i v hv => by
          have hi : i < ns.length := by rw [← hisz]; exact (Array.getElem?_eq_some_iff.mp hv).1
          obtain ⟨t, e⟩ := PyProof.Rows.IntsAre.int_at hit i v (by rw [Array.getElem?_toList]; exact hv)
          refine ⟨ns[i], t, List.getElem?_eq_getElem hi, ?_⟩; rw [e, List.getD_eq_getElem?_getD, List.getElem?_eq_getElem hi] <;> rfl
        refine set_update_ints ((Walks.list hh3 _ l hneI items).toS) s.heap.objs.size hSf ns hisz hb hval (items.size - 0) 0 _ (by omega) (Nat.zero_le _) ⟨⟨_, Heap.get?_push_size _ rfl, rfl, rfl⟩, (hl1.push _)⟩ ?hS0 ?hR
        case hS0 => exact ⟨0, Nat.le_refl 0, setR_new_at (Heap.get?_push_of_some _ hS)⟩
        case hR =>
          intro s' c' hm hc' hS'
          obtain ⟨h', g2, d', tk', os'⟩ := s'
          have eg : g2 = s.gens := hm.gens
          have ed : d' = s.drawn := hm.drawn
          have eo : os' = s.os := hm.os
          subst eg; subst ed; subst eo
          show wpAny _ _ _ _ _ _
          refine wpAny_pure ?_; show wpAny _ _ (ret Value.none) _ _ _
          rw [hisz] at hc'; refine wpAny_pure ⟨rfl, h', tk', c', rfl, hS', hc', fun b o e => ?_⟩
          have hb0 : b < s.heap.objs.size := Heap.lt_size e
          refine hm.heap b o ?_ (Heap.get?_push_of_some _ (Heap.get?_push_of_some _ e)); rw [hz1]
          simp only [List.mem_cons, List.not_mem_nil, or_false, not_or]; exact ⟨Nat.ne_of_lt hb0, Nat.ne_of_lt (Nat.lt_succ_of_lt hb0)⟩
      · cases r2 with
        | error e => exact hr2
        | ok fl2 =>
          cases fl2 with
          | ret r =>
            obtain ⟨rfl, h', tk, c', rfl, hS', hc', hk'⟩ := hr2
            repeat (any_goals (first | assumption | wp_step))
            exact h _ _ _ hS' hc' hk'
          | _ => exact hr2.elim
    | _ => exact hr.elim
/-- sorted of a set of ints, of any size -/
theorem sorted_set_any {a : Addr} {S : Int → Bool} {n : Nat} {Q : Value → Shared → Prop} (R : SetR w s.heap a S n) (hh : A.handled = none)
    (hQ : ∀ s' p (out : Array Value) (c : Nat) (ns : List Int), (∀ b o, s.heap.get? b = some o → s'.heap.get? b = some o) → s'.gens = s.gens → s'.os = s.os → s.heap.objs.size ≤ p →
      s'.heap.get? p = some (seqObj "list" out c) → IntsAre out.toList ns → ns.Pairwise (· < ·) → (∀ k, k ∈ ns ↔ S k = true) → ns.length = n → Q (.ref p) s') :
    wpAny (model P w) A (call (.builtin "sorted") [.ref a]) Q E s := by
  obtain ⟨o, es, ep, t, ho, hex, hd, g, nd, hm, hb, hf, hn, hr, hl⟩ := R
  have hsz := fits_of_scanBound hb
  refine Calls.call_function_entry kind_sorted plain_sorted entry_sorted (args_sorted1 _) ?_; unfold Builtin.«sorted»
  refine wpAny_bind (m := checkCount "sorted" 1 1 _) (wpAny_pure ?_)
  refine wpAny_bind (collect_set (A := A.in1) hh ⟨o, ho, hex.1, hd⟩ hf hb hr hl fun s1 vs k1 hz g1 o1 pm => ?_)
  have hvl : vs.length = n := by rw [pm.length_eq, List.length_map, Array.length_toList]; exact hn
  have hns : n ≤ sizeLine := by rw [← hn]; exact hsz
  have hI : IntsAre vs (vs.map Builtin.Re.reRawOf) := ints_of vs fun v hv => by
    obtain ⟨e, he, q⟩ := List.mem_map.mp (pm.mem_iff.mp hv); obtain ⟨k, tk, h1, _⟩ := g e he
    exact ⟨k, tk, by rw [← q]; exact h1⟩
  have pk : (vs.map Builtin.Re.reRawOf).Perm (es.toList.map keyOf) := by have q := pm.map Builtin.Re.reRawOf; rw [List.map_map] at q; exact q
  refine wpAny_bind (wpAny_newList ?_ (by rw [hvl]; exact hns))
  have hoL : (s1.heap.push (seqObj "list" vs.toArray 0)).get? s1.heap.objs.size = some (seqObj "list" vs.toArray 0) := Heap.get?_push_size _ rfl
  refine wpAny_bind (wpAny_holding (wpAny_call_entry slot_list_sort ⟨_, hoL, rfl⟩ entry_list_sort (list_sort_treeAny hoL hI (by rw [hvl]; exact hns) fun out ns' a1 a2 a3 => ⟨_, rfl, ?_⟩) (args_list_sort _)))
  obtain ⟨c, hc⟩ := sortedHeap_at (vs := vs) (out := out) hoL; have pn : ns'.Perm (es.toList.map keyOf) := a2.trans pk
  refine wpAny_pure ⟨_, rfl, hQ _ s1.heap.objs.size out c ns' (fun b u e => ?_) g1 o1 hz hc a1 (lt_of_le_nodup ns' a3 (pn.nodup_iff.mpr nd)) (fun k => by rw [pn.mem_iff, ← hm k]) ?_⟩
  · have q := k1 b u e; have hlt := Heap.lt_size q
    show (sortedHeap (s1.heap.push (seqObj "list" vs.toArray 0)) s1.heap.objs.size vs out).get? b = some u
    rw [sortedHeap_old (Nat.ne_of_lt hlt) (by rw [size_push']; exact Nat.lt_succ_of_lt hlt)]; exact Heap.get?_push_of_some _ q
  · rw [pn.length_eq, List.length_map, Array.length_toList]; exact hn
end
section
variable {X : Cx}
/-- set(xs), xs a list of ints -/
def rSetA (K : PySem.W.Frag) (w : World) : List V → Hp → VK → Prop := fun vs H Q => ∃ (l : Addr) (ns : List Int), vs = [V.ref l] ∧ SqL K H l (ns.map V.int) ∧ ns.length ≤ 1000 ∧
  ∀ p c, H p = none → c ≤ ns.length → Q (.ref p) (upd H p (SetO w p (fun j => decide (j ∈ ns)) c))
theorem call_setA (hc : X.calm = true) : CallR X (.type "set") (rSetA X.K X.w) := by
  intro pins s σ H vs us Q I r h
  obtain ⟨l, ns, rfl, hl, hz, q⟩ := h
  obtain ⟨its, rv, pl, _⟩ := I.list hl
  rw [Vals.ref1 r]
  refine set_of_list ns (I.ok.hd hc) pl.isList (by simpa using rv.ints) (by unfold scanBound; omega) fun h' tk c R hcl k => ?_
  exact ⟨.ref s.heap.objs.size, upd H s.heap.objs.size (SetO X.w s.heap.objs.size (fun j => decide (j ∈ ns)) c), I.laid (t' := tk) k (Nat.le_refl _) (setO_new R), rfl, q _ c (I.hok.fresh (Nat.le_refl _)) hcl⟩
/-- sorted(s): a set of ints; a list of ints -/
def rSortedS (w : World) : List V → Hp → VK → Prop := fun vs H Q => ∃ (a : Addr) (S : Int → Bool) (n : Nat), vs = [V.ref a] ∧ H a = some (SetO w a S n) ∧ n ≤ 1000 ∧
  ∀ (ns : List Int) (p : Addr), ns.Pairwise (· < ·) → (∀ k : Int, k ∈ ns ↔ S k = true) → ns.length = n → H p = none → Q (.ref p) (upd H p (.lst (ns.map V.int)))
theorem cr_sortedS' (hc : X.calm = true) : CallR X (.builtin "sorted") (rSortedS X.w) := by
  intro pins s σ H vs us Q I r h
  obtain ⟨a, S, n, rfl, ha, h64, q⟩ := h
  have R := setO_get I ha
  rw [Vals.ref1 r]
  refine sorted_set_any R (I.ok.hd hc) fun s' p out c ns k g o hp hg hi hs hm hl => ?_
  have hlen : (ns.map V.int).length ≤ sizeLine := by rw [List.length_map, hl, sizeLine_eq]; omega
  have hn : H p = none := I.hok.fresh hp
  have J : Inv X pins σ (upd H p (.lst (ns.map V.int))) { s with heap := s'.heap, gens := s'.gens, drawn := s'.drawn, toks := s'.toks } :=
    I.call (ch := []) (Un.laid k hp hn) (I.hok.laid k hp ⟨hlen, out.toList, c, vals_of_ints hi, hg⟩) (by rw [g]; exact I.bare) (fun _ z => nomatch z)
  have e : s' = { s with heap := s'.heap, gens := s'.gens, drawn := s'.drawn, toks := s'.toks } := by cases s'; cases s; cases o; rfl
  rw [e]
  exact ⟨.ref p, _, J, rfl, q ns p hs hm hl hn⟩
def rSortedA (K : PySem.W.Frag) (w : World) : List V → Hp → VK → Prop := fun vs H Q => rSortedS w vs H Q ∨ rSortedI K vs H Q
theorem call_sortedA (hc : X.calm = true) : CallR X (.builtin "sorted") (rSortedA X.K X.w) := (cr_sortedS' hc).or cr_sortedI
end
section
variable {K : PySem.W.Frag} {w : World} {H : Hp} {Q : VK} {p : Addr} {ns : List Int}
theorem g_set (h : SqL K H p (ns.map V.int)) (hz : ns.length ≤ 1000) (k : ∀ q c H', H q = none → Same H H' → H' q = some (SetO w q (fun j => decide (j ∈ ns)) c) → c ≤ ns.length → Q (.ref q) H') : rSetA K w [.ref p] H Q :=
  ⟨p, ns, rfl, h, hz, fun q c hq hc => k q c _ hq (same_new hq) upd_same hc⟩
theorem g_sortedS {S : Int → Bool} {n : Nat} (h : H p = some (SetO w p S n)) (hz : n ≤ 1000) (k : ∀ (es : List Int) q H', es.Pairwise (· < ·) → (∀ k : Int, k ∈ es ↔ S k = true) → es.length = n → H q = none → Same H H' → H' q = some (.lst (es.map V.int)) → Q (.ref q) H') : rSortedA K w [.ref p] H Q :=
  .inl ⟨p, S, n, rfl, h, hz, fun es q h1 h2 h3 h4 => k es q _ h1 h2 h3 h4 (same_new h4) upd_same⟩
/-- sorted(set(xs)) at once: from the set on -/
theorem g_sortedset {c : Nat} (h : H p = some (SetO w p (fun j => decide (j ∈ ns)) c)) (hc : c ≤ ns.length) (hz : ns.length ≤ 1000) (k : ∀ (es : List Int) q H', es.Pairwise (· < ·) → (∀ k : Int, k ∈ es ↔ k ∈ ns) → es.length ≤ ns.length → H q = none → Same H H' → H' q = some (.lst (es.map V.int)) → Q (.ref q) H') : rSortedA K w [.ref p] H Q :=
  g_sortedS h (by omega) fun es q H' h1 h2 h3 h4 h5 h6 => k es q H' h1 (fun k => by rw [h2 k]; exact decide_eq_true_iff) (by omega) h4 h5 h6
theorem g_sortedI (h : SqL K H p (ns.map V.int)) (k : ∀ (es : List Int) q H', es.Perm ns → es.Pairwise (· ≤ ·) → H q = none → Same H H' → H' q = some (.lst (es.map V.int)) → Q (.ref q) H') : rSortedA K w [.ref p] H Q :=
  .inr ⟨p, ns, rfl, h, fun es q h1 h2 h3 => k es q _ h1 h2 h3 (same_new h3) upd_same⟩
/-- is True -/
theorem g_isB {a b : Bool} (k : Q (.bl (decide (a = b))) H) : rIsB (.bl a) (.bl b) H Q := ⟨a, b, rfl, rfl, k⟩
theorem g_notB {a b : Bool} (k : Q (.bl (!decide (a = b))) H) : rNotB (.bl a) (.bl b) H Q := ⟨a, b, rfl, rfl, k⟩
/-- sep.join(xs) -/
def rJoinA (K : PySem.W.Frag) : V → List V → Hp → VK → Prop := fun x xs H Q => ∃ a p, ∃ ys : List Str, x = .str a ∧ xs = [.ref p] ∧ (SqL K H p (ys.map V.str) ∨ SqT K H p (ys.map V.str)) ∧
  (ys.map (·.length)).sum + ys.length * a.length ≤ 16777216 ∧ Q (.str (Txt.join a ys)) H
/-- a text's method of one argument -/
def kM1 (r : V → List V → Hp → VK → Prop) (te : TE) (σ : L2.St) (Q : VK) (x : V) (H : Hp) : Prop := (∃ a, x = .str a) ∧ te σ H fun y H2 => r x [y] H2 Q
theorem g_m1 {r : V → List V → Hp → VK → Prop} {to te : TE} {σ : L2.St} (h : to σ H (kM1 r te σ Q)) : tM1 r to te σ H Q := h
theorem g_kM1 {r : V → List V → Hp → VK → Prop} {te : TE} {σ : L2.St} {a : Str} (h : te σ H fun y H2 => r (.str a) [y] H2 Q) : kM1 r te σ Q (.str a) H := ⟨⟨a, rfl⟩, h⟩
theorem g_join {a : Str} {ys : List Str} (h : SqL K H p (ys.map V.str)) (hz : (ys.map (·.length)).sum + ys.length * a.length ≤ 16777216) (k : Q (.str (Txt.join a ys)) H) : rJoinA K (.str a) [.ref p] H Q :=
  ⟨a, p, ys, rfl, rfl, .inl h, hz, k⟩
end
section
variable {X : Cx} {o e : Expr} {to te : TE} {apos pos : Pos}
theorem pe_joinA (ho : PE X o to) (he : PE X e te) (hs : starEach [e] X.env = [(false, eval e X.env)] := by rfl) (hbase : attributeBase o "join" X.env (eval o X.env) = eval o X.env := by rfl) (hline : (apos.endLine == pos.line) = true := by rfl) :
    PE X (.Call (.Attribute o "join" apos) [e] [] pos) (tM1 (rJoinA X.K) to te) := pe_join ho he hs hbase hline
end
end Wk
/-! more walking rules -/
namespace Wk
open PySem PySem.Spec PyProof.Rows L2
/-! readings in a comprehension's block: what stands fixed is told by the def's own K -/
section
variable {X : Cx} {K : PySem.W.Frag} {e : Expr} {ta : TE} {f : Str} {pos : Pos}
theorem ix_seqK (h : X.K = K) : IxR X (rIx K) := h ▸ ix_seq
theorem op_eqK (h : X.K = K) (hu : X.A.units + 64 < cLine) : OpR X (compareOp .Eq) (rEqA K) := h ▸ op_eqA hu
theorem op_neK (h : X.K = K) (hu : X.A.units + 64 < cLine) : OpR X (compareOp .NotEq) (rNeA K) := h ▸ op_neA hu
theorem call_lenK (h : X.K = K) : CallR X (.builtin "len") (rLen K) := h ▸ call_lenA
theorem call_listK (h : X.K = K) : CallR X (.type "list") (rListA K) := h ▸ call_listA
theorem call_isiK (h : X.K = K) : CallR X (.builtin "isinstance") (rIsi K) := h ▸ call_isiA
theorem pe_fldK (h : X.K = K) (he : PE X e ta) (hb : attributeBase e f X.env (eval e X.env) = eval e X.env) : PE X (.Attribute e f pos) (tFld K ta f) := h ▸ pe_fld he hb
end
section
variable {K : PySem.W.Frag} {σ : L2.St} {H : Hp} {Q : VK} {te tl ta : TE} {tt : TT} {vs : List Nat} {p q : Addr} {xs ys : List V} {j : Nat} {ns : List Int}
/-- xs.extend(e) -/
def kExt2 (Q : VK) (p : Addr) (x : V) (H : Hp) : Prop := rExtend (.ref p) [x] H Q
def kExt (K : PySem.W.Frag) (te : TE) (σ : L2.St) (Q : VK) (x : V) (H : Hp) : Prop := tyV K "list" x H ∧ tCons te tNil σ H fun vs H2 => rExtend x vs H2 Q
theorem g_ext (h : ta σ H (kExt K te σ Q)) : tBM K "list" rExtend ta (tCons te tNil) σ H Q := h
theorem g_kExt (h : H p = some (.lst xs)) (k : te σ H (kExt2 Q p)) : kExt K te σ Q (.ref p) H := ⟨.inl ⟨rfl, _, SqL.of h⟩, k⟩
theorem g_kExt2 (h : H p = some (.lst xs)) (h2 : H q = some (.lst ys)) (hz : xs.length + ys.length ≤ 100000) (k : ∀ H', Mv H p H' → H' p = some (.lst (xs ++ ys)) → Q .non H') : kExt2 Q p (.ref q) H :=
  ⟨p, q, xs, ys, rfl, rfl, h, h2, sz hz, k _ mv_upd upd_same⟩
/-- over a list of ints -/
theorem g_kLcLI (h : Int → Int) (hx : SqL K H p (ns.map V.int)) (hn : ns.length ≤ 50000) (hw : ∀ x, wipe ((wipe σ vs).set j (some x)) vs = wipe σ vs)
    (he : ∀ (i : Nat) (c : Int) H' (Q' : VK), ns[i]? = some c → Same H H' → (∀ H'', Same H' H'' → Q' (.int (h c)) H'') → te ((wipe σ vs).set j (some (.int c))) H' Q')
    (k : ∀ q H', H q = none → Same H H' → H' q = some (.lst ((ns.map h).map V.int)) → Q (.ref q) H') : kLcL K (gName j) tYes te vs σ Q (.ref p) H :=
  g_kLcLV (fun x => match x with | .int c => .int (h c) | y => y) hx (by rw [List.length_map]; exact hn) hw
    (fun i x H' Q' hi s q => by
      rw [List.getElem?_map] at hi
      cases e : ns[i]? with
      | none => rw [e] at hi; cases hi
      | some c =>
        rw [e] at hi
        have := Option.some.inj hi
        subst this
        exact he i c H' Q' e s q)
    fun q H' h1 h2 h3 => k q H' h1 h2 (by
      rw [h3, List.map_map, List.map_map] <;> rfl)
theorem g_kLcLIF (b : Int → Bool) (h : Int → Int) (hx : SqL K H p (ns.map V.int)) (hn : ns.length ≤ 50000) (hw : ∀ x, wipe ((wipe σ vs).set j (some x)) vs = wipe σ vs)
    (ht : ∀ (i : Nat) (c : Int) H' (Q' : Bool → Hp → Prop), ns[i]? = some c → Same H H' → (∀ H'', Same H' H'' → Q' (b c) H'') → tt ((wipe σ vs).set j (some (.int c))) H' Q')
    (he : ∀ (i : Nat) (c : Int) H' (Q' : VK), ns[i]? = some c → b c = true → Same H H' → (∀ H'', Same H' H'' → Q' (.int (h c)) H'') → te ((wipe σ vs).set j (some (.int c))) H' Q')
    (k : ∀ q H', H q = none → Same H H' → H' q = some (.lst (((ns.filter b).map h).map V.int)) → Q (.ref q) H') : kLcL K (gName j) tt te vs σ Q (.ref p) H :=
  g_kLcLF (fun x => match x with | .int c => b c | _ => false) (fun x => match x with | .int c => .int (h c) | y => y) hx (by rw [List.length_map]; exact hn) hw
    (fun i x H' Q' hi s q => by
      rw [List.getElem?_map] at hi
      cases e : ns[i]? with
      | none => rw [e] at hi; cases hi
      | some c =>
        rw [e] at hi
        have := Option.some.inj hi
        subst this
        exact ht i c H' Q' e s q)
    (fun i x H' Q' hi hb s q => by
      rw [List.getElem?_map] at hi
      cases e : ns[i]? with
      | none => rw [e] at hi; cases hi
      | some c =>
        rw [e] at hi
        have := Option.some.inj hi
        subst this
        exact he i c H' Q' e hb s q)
    fun q H' h1 h2 h3 => k q H' h1 h2 (by
      rw [h3, List.filter_map, List.map_map, List.map_map] <;> rfl)
end
end Wk
namespace Wk
open PySem PySem.Spec PyProof.Rows L2
section
variable {K : PySem.W.Frag} {σ : L2.St} {H : Hp} {Q : VK} {te tl ta : TE} {tt : TT} {vs : List Nat} {p q : Addr} {xs ys : List V} {j : Nat} {ns : List Int}
/-- over a list, some kept: values and tests told by data that stand beside the items -/
theorem g_kLcLD {δ : Type} (D : List δ) (b : δ → Bool) (f : δ → V) (hx : SqL K H p xs) (hl : xs.length = D.length) (hn : xs.length ≤ 50000) (hw : ∀ x, wipe ((wipe σ vs).set j (some x)) vs = wipe σ vs)
    (ht : ∀ (i : Nat) (x : V) (d : δ) H' (Q' : Bool → Hp → Prop), xs[i]? = some x → D[i]? = some d → Same H H' → (∀ H'', Same H' H'' → Q' (b d) H'') → tt ((wipe σ vs).set j (some x)) H' Q')
    (he : ∀ (i : Nat) (x : V) (d : δ) H' (Q' : VK), xs[i]? = some x → D[i]? = some d → b d = true → Same H H' → (∀ H'', Same H' H'' → Q' (f d) H'') → te ((wipe σ vs).set j (some x)) H' Q')
    (k : ∀ q H', H q = none → Same H H' → H' q = some (.lst ((D.filter b).map f)) → Q (.ref q) H') : kLcL K (gName j) tt te vs σ Q (.ref p) H := by
  refine ⟨p, rfl, ⟨xs, hx⟩, fun E hE => ?_⟩
  refine lc_list (K := K) (a := p) (xs := xs) (fun i H' => Same H H' ∧ H' E = some (.lst (((D.take i).filter b).map f)))
    ⟨same_new hE, by rw [List.take_zero]; exact upd_same⟩ (fun i H' _ hP => seqL hP.1 hx) (fun i x H' hi hP => ?_) (fun H' hP => ?_)
  · obtain ⟨s, e⟩ := hP
    have hil := (List.getElem?_eq_some_iff.mp hi).1
    obtain ⟨d, hd⟩ : ∃ d, D[i]? = some d := ⟨_, List.getElem?_eq_getElem (by omega)⟩
    have ht1 : D.take (i + 1) = D.take i ++ [d] := by rw [List.take_add_one, hd] <;> rfl
    show wipe ((wipe σ vs).set j (some x)) vs = wipe σ vs ∧ tt ((wipe σ vs).set j (some x)) H' _
    refine ⟨hw _, ht i x d H' _ hi hd s fun H2 s2 => ?_⟩
    cases hb : b d with
    | true =>
      refine he i x d H2 _ hi hd hb (Same.via s s2) fun H3 s3 => ⟨_, s3 _ _ (s2 _ _ e), szl ?_, Same.mutd (Same.via s (Same.via s2 s3)) mv_upd hE, ?_⟩
      · rw [List.length_map]
        have := List.length_filter_le b (D.take i)
        rw [List.length_take] at this
        omega
      · rw [upd_same, ht1, List.filter_append, List.map_append, List.filter_cons, if_pos hb] <;> rfl
    | false =>
      show Same H H2 ∧ H2 E = some (.lst (((D.take (i + 1)).filter b).map f))
      refine ⟨Same.via s s2, ?_⟩
      rw [ht1, List.filter_append, List.map_append, List.filter_cons, if_neg (by rw [hb]; exact Bool.false_ne_true), List.filter_nil, List.map_nil, List.append_nil]
      exact s2 _ _ e
  · obtain ⟨s, e⟩ := hP
    rw [hl, List.take_length] at e
    exact k E H' hE s e

/-- an if whose ways meet -/
theorem g_kIfJ {t u : TS} {nx bk ct : L2.St → Hp → Prop} {rt : VK} {b : Bool} (J : L2.St → Hp → Prop) (h1 : b = true → ∀ N : L2.St → Hp → Prop, (∀ σ' H', J σ' H' → N σ' H') → t ⟨N, rt, bk, ct⟩ σ H)
    (h2 : b = false → ∀ N : L2.St → Hp → Prop, (∀ σ' H', J σ' H' → N σ' H') → u ⟨N, rt, bk, ct⟩ σ H) (k : ∀ σ' H', J σ' H' → nx σ' H') : kIf t u ⟨nx, rt, bk, ct⟩ σ b H := by
  cases b with
  | true => exact h1 rfl nx k
  | false => exact h2 rfl nx k
theorem g_kAndJ {t u : TS} {v : TT} {nx bk ct : L2.St → Hp → Prop} {rt : VK} {b : Bool} {τ : L2.St} (J : L2.St → Hp → Prop) (h : ∀ N : L2.St → Hp → Prop, (∀ σ' H', J σ' H' → N σ' H') → kAnd v σ (kIf t u ⟨N, rt, bk, ct⟩ τ) b H)
    (k : ∀ σ' H', J σ' H' → nx σ' H') : kAnd v σ (kIf t u ⟨nx, rt, bk, ct⟩ τ) b H := h nx k
theorem g_kOrJ {t u : TS} {v : TT} {nx bk ct : L2.St → Hp → Prop} {rt : VK} {b : Bool} {τ : L2.St} (J : L2.St → Hp → Prop) (h : ∀ N : L2.St → Hp → Prop, (∀ σ' H', J σ' H' → N σ' H') → kOr v σ (kIf t u ⟨N, rt, bk, ct⟩ τ) b H)
    (k : ∀ σ' H', J σ' H' → nx σ' H') : kOr v σ (kIf t u ⟨nx, rt, bk, ct⟩ τ) b H := h nx k
theorem g_kIfV {t u : TS} {D : Ends} {b : Bool} (h1 : b = true → t D σ H) (h2 : b = false → u D σ H) : kIf t u D σ b H := g_kIf h1 h2
/-- a < b < c -/
theorem g_chain {r r' : R2} {tb tc : TE} (h : ta σ H fun x H1 => tb σ H1 fun y H2 => r x y H2 (kChain r' tc σ y Q)) : tChain r r' ta tb tc σ H Q := h
theorem g_kChain {r' : R2} {tc : TE} {y : V} {b : Bool} (h1 : b = true → tc σ H fun w H4 => r' y w H4 Q) (h2 : b = false → Q (.bl false) H) : kChain r' tc σ y Q (.bl b) H := ⟨b, rfl, by
  cases b with
  | true => exact h1 rfl
  | false => exact h2 rfl⟩
theorem g_kChainm {r' : R2} {tc : TE} {y : V} {b : Bool} (d : Bool) (h1 : b = true → ∀ Q' : VK, (∀ H', Same H H' → Q' (.bl d) H') → tc σ H fun w H4 => r' y w H4 Q') (h2 : b = false → d = false) (k : ∀ H', Same H H' → Q (.bl d) H') : kChain r' tc σ y Q (.bl b) H :=
  g_kChain (fun hb => h1 hb Q k) fun hb => by have q := k H (Same.refl H); rw [h2 hb] at q; exact q
/-- while -/
def kW (Pv : Nat → L2.St → Hp → Prop) (m : Nat) (tb : TS) (D : Ends) (σ : L2.St) (b : Bool) (H1 : Hp) : Prop :=
  if b = true then ∃ N : L2.St → Hp → Prop, (∀ σ' H', N σ' H' → ∃ m', m' < m ∧ Pv m' σ' H') ∧ tb { D with nx := N, ct := N, bk := D.nx } σ H1 else D.nx σ H1
theorem g_while {c : TT} {tb : TS} {D : Ends} (Pv : Nat → L2.St → Hp → Prop) (m : Nat) (h0 : Pv m σ H) (hs : ∀ m σ' H', Pv m σ' H' → c σ' H' (kW Pv m tb D σ')) : tWhile c tb D σ H := ⟨Pv, ⟨m, h0⟩, hs⟩
theorem g_kW {Pv : Nat → L2.St → Hp → Prop} {m : Nat} {tb : TS} {nx bk ct : L2.St → Hp → Prop} {rt : VK} {b : Bool} (h1 : b = true → ∀ N : L2.St → Hp → Prop, (∀ σ' H' m', m' < m → Pv m' σ' H' → N σ' H') → tb ⟨N, rt, nx, N⟩ σ H) (h2 : b = false → nx σ H) : kW Pv m tb ⟨nx, rt, bk, ct⟩ σ b H := by
  unfold kW
  cases b with
  | true => exact ⟨fun σ' H' => ∃ m', m' < m ∧ Pv m' σ' H', fun _ _ h => h, h1 rfl _ fun σ' H' m' h h' => ⟨m', h, h'⟩⟩
  | false => exact h2 rfl
/-- over a tuple, some kept -/
def kLcT (K : PySem.W.Frag) (g : TG) (tt : TT) (te : TE) (vs : List Nat) (σ : L2.St) (Q : VK) (x : V) (H : Hp) : Prop := ∃ a, x = .ref a ∧ (∃ xs, SqT K H a xs) ∧ kLc (Itt K a) g tt te vs σ Q H
theorem g_lcT {g : TG} (h : tl σ H (kLcT K g tt te vs σ Q)) : tLc (iTup K tl) g tt te vs σ H Q := h
theorem g_kLcTF (b : V → Bool) (f : V → V) (hx : SqT K H p xs) (hn : xs.length ≤ 50000) (hw : ∀ x, wipe ((wipe σ vs).set j (some x)) vs = wipe σ vs)
    (ht : ∀ (i : Nat) (x : V) H' (Q' : Bool → Hp → Prop), xs[i]? = some x → Same H H' → (∀ H'', Same H' H'' → Q' (b x) H'') → tt ((wipe σ vs).set j (some x)) H' Q')
    (he : ∀ (i : Nat) (x : V) H' (Q' : VK), xs[i]? = some x → b x = true → Same H H' → (∀ H'', Same H' H'' → Q' (f x) H'') → te ((wipe σ vs).set j (some x)) H' Q')
    (k : ∀ q H', H q = none → Same H H' → H' q = some (.lst ((xs.filter b).map f)) → Q (.ref q) H') : kLcT K (gName j) tt te vs σ Q (.ref p) H := by
  refine ⟨p, rfl, ⟨xs, hx⟩, fun D hD => ?_⟩
  refine lc_tup (K := K) (a := p) (xs := xs) (fun i H' => Same H H' ∧ H' D = some (.lst (((xs.take i).filter b).map f)))
    ⟨same_new hD, by rw [List.take_zero]; exact upd_same⟩ (fun i H' _ hP => seqT hP.1 hx) (fun i x H' hi hP => ?_) (fun H' hP => ?_)
  · obtain ⟨s, e⟩ := hP
    have hil := (List.getElem?_eq_some_iff.mp hi).1
    have ht1 : xs.take (i + 1) = xs.take i ++ [x] := by rw [List.take_add_one, hi] <;> rfl
    show wipe ((wipe σ vs).set j (some x)) vs = wipe σ vs ∧ tt ((wipe σ vs).set j (some x)) H' _
    refine ⟨hw _, ht i x H' _ hi s fun H2 s2 => ?_⟩
    cases hb : b x with
    | true =>
      refine he i x H2 _ hi hb (Same.via s s2) fun H3 s3 => ⟨_, s3 _ _ (s2 _ _ e), szl ?_, Same.mutd (Same.via s (Same.via s2 s3)) mv_upd hD, ?_⟩
      · rw [List.length_map]
        have := List.length_filter_le b (xs.take i)
        rw [List.length_take] at this
        omega
      · rw [upd_same, ht1, List.filter_append, List.map_append, List.filter_cons, if_pos hb] <;> rfl
    | false =>
      show Same H H2 ∧ H2 D = some (.lst (((xs.take (i + 1)).filter b).map f))
      refine ⟨Same.via s s2, ?_⟩
      rw [ht1, List.filter_append, List.map_append, List.filter_cons, if_neg (by rw [hb]; exact Bool.false_ne_true), List.filter_nil, List.map_nil, List.append_nil]
      exact s2 _ _ e
  · obtain ⟨s, e⟩ := hP
    rw [List.take_length] at e
    exact k D H' hD s e
/-- a slice of a tuple, not the whole -/
theorem g_slT {lo hi : Option Int} (h : SqT K H p xs) (hw : ¬ (HT.sIx xs.length 0 lo = 0 ∧ HT.sIx xs.length xs.length hi = xs.length)) (k : ∀ l H', H l = none → Same H H' → H' l = some (.tup (cutV xs lo hi)) → Q (.ref l) H') : rSlT K (.ref p) lo hi H Q :=
  ⟨p, xs, rfl, h, hw, fun l hl => k l _ hl (same_new hl) upd_same⟩
/-- for x in reversed(xs) -/
def kForV (K : PySem.W.Frag) (g : TG) (tb : TS) (D : Ends) (σ : L2.St) (vs : List V) (H : Hp) : Prop := ∃ (a : Addr) (xs : List V), vs = [.ref a] ∧ SqL K H a xs ∧ ∃ W : Nat → Nat → L2.St → Hp → Prop, (∃ m, W 0 m σ H) ∧ ∀ i m σ H, W i m σ H →
  ((Itv K a xs.length).stop i H ∧ D.nx σ H) ∨ ((Itv K a xs.length).go i H ∧ ∃ N : L2.St → Hp → Prop, (∀ σ' H', N σ' H' → ∃ m', m' < m ∧ W (i + 1) m' σ' H') ∧ ∀ x H', (Itv K a xs.length).yld i H x H' → g x σ H' fun σ2 H2 => tb { D with nx := N, ct := N, bk := D.nx } σ2 H2)
theorem g_forV {D : Ends} {g : TG} {tb : TS} {t : TA} (h : t σ H (kForV K g tb D σ)) : tFor (iRev K t) g tb D σ H := h
theorem g_kForV {g : TG} {tb : TS} {nx bk ct : L2.St → Hp → Prop} {rt : VK} (hx : SqL K H p xs) (Pv : Nat → L2.St → Hp → Prop) (h0 : Pv 0 σ H) (hl : ∀ i σ' H', Pv i σ' H' → SqL K H' p xs)
    (hs : ∀ i x σ' H', i < xs.length → xs[xs.length - 1 - i]? = some x → Pv i σ' H' → g x σ' H' fun σ2 H2 => tb ⟨Pv (i + 1), rt, nx, Pv (i + 1)⟩ σ2 H2) (hd : ∀ σ' H', Pv xs.length σ' H' → nx σ' H') : kForV K g tb ⟨nx, rt, bk, ct⟩ σ [.ref p] H := by
  refine ⟨p, xs, rfl, hx, fun i m σ H => m = xs.length - i ∧ i ≤ xs.length ∧ Pv i σ H, ⟨xs.length, by simp, Nat.zero_le _, h0⟩, ?_⟩
  rintro i m σ H ⟨rfl, hi, P⟩
  have q := hl i σ H P
  by_cases hlt : i < xs.length
  · have hg : xs[xs.length - 1 - i]? = some (xs[xs.length - 1 - i]'(by omega)) := List.getElem?_eq_getElem _
    refine .inr ⟨⟨hlt, xs, _, q, hg⟩, Pv (i + 1), fun σ' H' p' => ⟨xs.length - (i + 1), by omega, rfl, hlt, p'⟩, fun x H' y => ?_⟩
    obtain ⟨e, y⟩ := y
    subst e
    exact hs i x σ _ hlt (y xs q) P
  · have e : i = xs.length := by omega
    subst e
    exact .inl ⟨Nat.le_refl _, hd σ H P⟩
/-- sum(xs) -/
theorem g_sum (h : SqL K H p (ns.map V.int)) (k : Q (.int ns.sum) H) : rSum K [.ref p] H Q := ⟨p, ns, rfl, h, k⟩
/-- lists whose items are tuples -/
def TupsAt (H : Hp) (a : Addr) (xs : List (List V)) : Prop := ∃ as : List Addr, H a = some (.lst (as.map V.ref)) ∧ as.length = xs.length ∧ ∀ (i : Nat) b x, as[i]? = some b → xs[i]? = some x → H b = some (.tup x)
theorem TupsAt.same {H H' : Hp} {a : Addr} {xs : List (List V)} (s : Same H H') (h : TupsAt H a xs) : TupsAt H' a xs := by
  obtain ⟨as, h1, h2, h3⟩ := h
  exact ⟨as, s _ _ h1, h2, fun i b x e1 e2 => s _ _ (h3 i b x e1 e2)⟩
theorem ref_at {as : List Addr} {i : Nat} {x : V} (h : (as.map V.ref)[i]? = some x) : ∃ b, as[i]? = some b ∧ x = .ref b := by
  rw [List.getElem?_map] at h
  cases q : as[i]? with
  | none => rw [q] at h; cases h
  | some e => rw [q] at h; exact ⟨e, rfl, (Option.some.inj h).symm⟩
/-- int(x) -/
def rIntA : List V → Hp → VK → Prop := fun xs H Q => ((∃ i, xs = [.int i] ∧ Q (.int i) H) ∨ ∃ k, xs = [.bl k] ∧ Q (.int (if k then 1 else 0)) H) ∨ ∃ a n, xs = [.str a] ∧ PySem.intText? a = some n ∧ a.length ≤ 640 ∧ Q (.int n) H
theorem call_intA {X : Cx} : CallR X (.type "int") rIntA := call_int1.or call_int_str
theorem g_intB {b : Bool} (k : Q (.int (if b then 1 else 0)) H) : rIntA [.bl b] H Q := .inl (.inr ⟨b, rfl, k⟩)
theorem g_intI {i : Int} (k : Q (.int i) H) : rIntA [.int i] H Q := .inl (.inl ⟨i, rfl, k⟩)
theorem g_intS {a : Str} {n : Int} (h : PySem.intText? a = some n) (hl : a.length ≤ 640) (k : Q (.int n) H) : rIntA [.str a] H Q := .inr ⟨a, n, rfl, h, hl, k⟩
/-- a call of a local that holds a def -/
theorem g_callL {i : Nat} {f : Addr} {sp : Sp} {E : XK} {t : TA} (hs : σ[i]? = some (some (.ref f))) (h : t σ H (kCall sp E Q)) : tCallL i f sp [] E t σ H Q := ⟨hs, g_call h⟩
end
end Wk
/-! exceptions: raised, caught, asked -/
namespace Wk
open PySem PySem.Spec PyProof.Rows L2
abbrev bmVE : List Value := [.type "ValueError", .type "Exception", .type "BaseException", .type "object"]
/-- an own class of errors over ValueError -/
structure ExcT (K : PySem.W.Frag) (mg : Str → Option Value) (x : Str) (D : Addr) : Prop where
  g : mg x = some (.ref D)
  q : PySem.W.excIn K D bmVE "ValueError.__new__" = true
  k : PySem.W.keepIn K (.ref D) = true
  b : PySem.W.subIn K (.ref D) (.type "BaseException") = some true
  t : PySem.W.typeIn K (.ref D) = some (.type "type")
  c : ExcC K D
  v : PySem.W.kitOne K (.ref D) (.type "ValueError") = some true
theorem excT_mk {K : PySem.W.Frag} {mg : Str → Option Value} {h : Heap} {x : Str} {D : Addr} (X : K.In h) (G : h.Ns mainGlobals mg) (a : PySem.W.nsIn K mainGlobals x = some (some (.ref D)))
    (q : PySem.W.excIn K D bmVE "ValueError.__new__" = true) (k : PySem.W.keepIn K (.ref D) = true) (b : PySem.W.subIn K (.ref D) (.type "BaseException") = some true) (t : PySem.W.typeIn K (.ref D) = some (.type "type"))
    (hg : PySem.W.findIn K (.ref D) "__getattribute__" = some (some (.builtin "BaseException.__getattribute__"))) (hk : PySem.W.findIn K (.ref D) "__getattr__" = some none)
    (hd : PySem.W.hasDictIn K D = true) (ha : PySem.W.findIn K (.ref D) "__class__" = some (some (.builtin "object.__class__"))) (hn : PySem.W.specialIn K (.builtin "object.__class__") "__get__" = some (some (.builtin "getset_descriptor.__get__")))
    (ht : PySem.W.takesIn K (.builtin "object.__class__") = some true) (hm : PySem.W.mroIn K D (.type "object") = some true) (vs : PySem.W.subIn K (.ref D) (.type "ValueError") = some true) : ExcT K mg x D :=
  ⟨PySem.W.mg_of X G a, q, k, b, t, ⟨hg, hk, b, hd, ha, hn, ht, hm⟩, by
    show (if ((Value.ref D == Value.type "ValueError") = true) then some true else PySem.W.kitCls K (.ref D) (.type "ValueError")) = some true
    rw [if_neg (by simp)]
    show (if PySem.W.kitMeta "ValueError" = true then PySem.W.subIn K (.ref D) (.type "ValueError") else none) = some true
    rw [if_pos (by decide +kernel)]
    exact vs⟩
/-- D is a C, or not -/
structure ExcRel (K : PySem.W.Frag) (D C : Addr) (b : Bool) : Prop where
  kit : PySem.W.kitOne K (.ref D) (.ref C) = some b
  exm : PySem.W.exmOne K (.ref D) (.ref C) = some b
theorem excRel_self {K : PySem.W.Frag} {C : Addr} (b : PySem.W.subIn K (.ref C) (.type "BaseException") = some true) (hd : PySem.W.hasDictIn K C = true) (t : PySem.W.typeIn K (.ref C) = some (.type "type")) (s : PySem.W.subIn K (.ref C) (.ref C) = some true) : ExcRel K C C true :=
  ⟨if_pos (beq_self_eq_true _), PySem.W.exm_ref b hd t s⟩
theorem excRel_mk {K : PySem.W.Frag} {C D : Addr} {v : Bool} (b : PySem.W.subIn K (.ref C) (.type "BaseException") = some true) (hd : PySem.W.hasDictIn K C = true) (t : PySem.W.typeIn K (.ref C) = some (.type "type")) (s : PySem.W.subIn K (.ref D) (.ref C) = some v) (hne : (Value.ref D == Value.ref C) = false) : ExcRel K D C v := by
  refine ⟨?_, PySem.W.exm_ref b hd t s⟩
  show (if ((Value.ref D == Value.ref C) = true) then some true else PySem.W.kitCls K (.ref D) (.ref C)) = some v
  rw [hne, if_neg Bool.false_ne_true]
  show (if ((PySem.W.clsIn K C).isSome && PySem.W.typeIn K (.ref C) == some (.type "type")) = true then PySem.W.subIn K (.ref D) (.ref C) else none) = some v
  obtain ⟨cd, hc, _⟩ := PySem.W.any_some hd
  rw [hc, t]
  exact s
section
variable {X : Cx} {CX : CXT} {k : Nat} {f C : Addr} {ps : List Str} {sp : Sp} {E : L2.St → XK} {x m : Str} {p p2 pos apos pos' : Pos} {e o : Expr} {es : List Expr} {ta : TE} {t : TA} {j : Nat}
theorem pe_callSR (R : Rd X.prog X.w X.K X.mg X.base CX k x ps sp) (hr : Room k X.A) (hg : Gl X x) (hx : ∀ σ, PassesAt CX X σ (E σ)) (ha : PA X (e :: es) t) (hdb : (x == ("__debug__" : Str)) = false := by decide)
    (he : starEach (e :: es) X.env = (false, eval e X.env) :: starEach es X.env := by rfl) (hpl : (backTo pos (starEach es X.env)).any (·.1) = false := by rfl) :
    PE X (.Call (.Name x p) (e :: es) [] pos) (tCallS sp E t) := by
  obtain ⟨f, fd, F, g, kp, b⟩ := R
  exact pe_callS F hr hg g kp b hx ha hdb he hpl
/-- raise C('..') -/
def tRaise (C : Addr) (W : WX) : TS := fun _ σ H => W (.ref C) none σ H
theorem ps_raiseK {W : WX} {D : Addr} (T : ExcT X.K X.mg x D) (hc : X.calm = true) (tk : Takes X W) (hg : Gl X x) (hdb : (x == ("__debug__" : Str)) = false := by decide) : PS X (.Raise (some (.Call (.Name x p) [.Constant (.str m) j p2] [] pos)) none pos') (tRaise D W) :=
  ps_raise hc tk (pmk_own PySem.F.excBase_ValueError T.q T.g T.k (raises_own T.b T.t) hg hdb)
theorem g_raise {C : Addr} {W : WX} {D : Ends} {σ : L2.St} {H : Hp} (h : W (.ref C) none σ H) : tRaise C W D σ H := h
theorem g_callS {σ : L2.St} {H : Hp} {Q : VK} (h : t σ H (kCall sp (E σ) Q)) : tCallS sp E t σ H Q := h
/-- try: .. except C as n: .. -/
def tTryAs (K : PySem.W.Frag) (c : Value) (i : Nat) (ts : Addr → Value → Option Addr → TS) (tb : WX → TS) : TS := fun D σ H => tb (wAs K c i ts (fun _ _ _ _ => False) D) D σ H
def tTryOnly (K : PySem.W.Frag) (c : Value) (ts : Addr → Value → Option Addr → TS) (tb : WX → TS) : TS := fun D σ H => tb (wOnly K c ts (fun _ _ _ _ => False) D) D σ H
def tTryMany (K : PySem.W.Frag) (l : List (Value × (Addr → Value → Option Addr → TS))) (tb : WX → TS) : TS := fun D σ H => tb (wMany K (fun _ _ _ _ => False) D l) D σ H
variable {n : Str} {i : Nat} {c : Value} {body suite : List Stmt} {b₀ : Stmt} {np : Pos} {tb : WX → TS} {ts : Addr → Value → Option Addr → TS}
theorem ps_tryAsK (hs : X.stack = X.env :: X.outer) (hf : X.env.frame = some X.env.locals) (hN : X.N.Nodup) (hi : X.N[i]? = some n) (hln : X.env.kindOf n = some .local) (hc : Names X x c)
    (hb : ∀ (W : WX) (pn : List (Addr × Obj)) (xe : Value → Shared → Prop), Takes (X.tr pn xe) W → PassesOwn (model X.prog X.w) X.A X.env xe → PSs (X.tr pn xe) body (tb W))
    (hsu : ∀ (a : Addr) (oe : Obj) (cls : Value) (d : Option Addr) (pn : List (Addr × Obj)), Zc cls d oe → (∃ vs, oe.data = .fields vs) → PSs (X.suite a ((a, oe) :: pn)) (b₀ :: suite) (ts a cls d)) :
    PS X (.Try body [.ExceptHandler (some (.Name x np)) (some n) (b₀ :: suite) pos'] [] [] pos) (tTryAs X.K c i ts tb) := ps_try_as hs hf hN hi hln hc takes0 hb hsu
theorem ps_tryOnlyK (hs : X.stack = X.env :: X.outer) (hf : X.env.frame = some X.env.locals) (hc : Names X x c)
    (hb : ∀ (W : WX) (pn : List (Addr × Obj)) (xe : Value → Shared → Prop), Takes (X.tr pn xe) W → PassesOwn (model X.prog X.w) X.A X.env xe → PSs (X.tr pn xe) body (tb W))
    (hsu : ∀ (a : Addr) (oe : Obj) (cls : Value) (d : Option Addr) (pn : List (Addr × Obj)), Zc cls d oe → (∃ vs, oe.data = .fields vs) → PSs (X.suite a ((a, oe) :: pn)) (b₀ :: suite) (ts a cls d)) :
    PS X (.Try body [.ExceptHandler (some (.Name x np)) none (b₀ :: suite) pos'] [] [] pos) (tTryOnly X.K c ts tb) := ps_try_only hs hf hc takes0 hb hsu
theorem ps_tryManyK {h₀ : ExceptHandler} {hds : List ExceptHandler} {l : List (Value × (Addr → Value → Option Addr → TS))} (hs : X.stack = X.env :: X.outer) (hf : X.env.frame = some X.env.locals)
    (hb : ∀ (W : WX) (pn : List (Addr × Obj)) (xe : Value → Shared → Prop), Takes (X.tr pn xe) W → PassesOwn (model X.prog X.w) X.A X.env xe → PSs (X.tr pn xe) body (tb W))
    (hh : HdsOk X (h₀ :: hds) l) : PS X (.Try body (h₀ :: hds) [] [] pos) (tTryMany X.K l tb) := ps_try_many hs hf takes0 hb hh
end
section
variable {K : PySem.W.Frag} {c cls : Value} {i : Nat} {ts : Addr → Value → Option Addr → TS} {tb : WX → TS} {σ : L2.St} {H : Hp} {d : Option Addr} {nx bk ct : L2.St → Hp → Prop} {rt : VK}
theorem g_tryAs {D : Ends} (h : tb (wAs K c i ts (fun _ _ _ _ => False) D) D σ H) : tTryAs K c i ts tb D σ H := h
theorem g_tryOnly {D : Ends} (h : tb (wOnly K c ts (fun _ _ _ _ => False) D) D σ H) : tTryOnly K c ts tb D σ H := h
theorem g_tryMany {D : Ends} {l : List (Value × (Addr → Value → Option Addr → TS))} (h : tb (wMany K (fun _ _ _ _ => False) D l) D σ H) : tTryMany K l tb D σ H := h
/-- the error is the clause's -/
theorem in_as (he : PySem.W.exmOne K cls c = some true) (h : ∀ a, H a = none → ts a cls d ⟨fun σ' H' => nx (σ'.set i none) H', rt, fun σ' H' => bk (σ'.set i none) H', fun σ' H' => ct (σ'.set i none) H'⟩ (σ.set i (some (.ref a))) H) : WE (wAs K c i ts (fun _ _ _ _ => False) ⟨nx, rt, bk, ct⟩) σ cls d H :=
  ⟨true, he, fun _ => h, fun z => nomatch z⟩
theorem in_only (he : PySem.W.exmOne K cls c = some true) (h : ∀ a, H a = none → ts a cls d ⟨nx, rt, bk, ct⟩ σ H) : WE (wOnly K c ts (fun _ _ _ _ => False) ⟨nx, rt, bk, ct⟩) σ cls d H :=
  ⟨true, he, fun _ => h, fun z => nomatch z⟩
theorem in_many {Wo : WX} {l : List (Value × (Addr → Value → Option Addr → TS))} (he : PySem.W.exmOne K cls c = some true) (h : ∀ a, H a = none → ts a cls d ⟨nx, rt, bk, ct⟩ σ H) : WE (wMany K Wo ⟨nx, rt, bk, ct⟩ ((c, ts) :: l)) σ cls d H :=
  ⟨true, he, fun _ => h, fun z => nomatch z⟩
theorem past_many {Wo : WX} {l : List (Value × (Addr → Value → Option Addr → TS))} {D : Ends} (he : PySem.W.exmOne K cls c = some false) (h : WE (wMany K Wo D l) σ cls d H) : WE (wMany K Wo D ((c, ts) :: l)) σ cls d H :=
  ⟨false, he, fun z => (nomatch z), fun _ => h⟩
/-- isinstance(e, C), e caught -/
def rIsEx (K : PySem.W.Frag) (a : Addr) (cls : Value) (d : Option Addr) : List V → Hp → VK → Prop := fun xs H Q => ∃ D, cls = .ref D ∧ d = none ∧ ExcC K D ∧ rIsE K D a xs H Q
theorem call_isEx {X : Cx} {a : Addr} {oe : Obj} {pn : List (Addr × Obj)} (hK : X.K = K) (hz : Zc cls d oe) (hf : ∃ vs, oe.data = .fields vs) : CallR (X.suite a ((a, oe) :: pn)) (.builtin "isinstance") (rIsEx K a cls d) := by
  subst hK
  intro pins s σ H xs us Q I r h
  obtain ⟨D, rfl, rfl, C, h⟩ := h
  exact call_isE C hz hf pins s σ H xs us Q I r h
theorem g_isE {D C a : Addr} {b : Bool} {Q : VK} (T : ExcC K D) (R : ExcRel K D C b) (k : Q (.bl b) H) : rIsEx K a (.ref D) none [.ref a, .ref C] H Q := ⟨D, rfl, rfl, T, _, _, b, rfl, fun u r => by cases r; rfl, R.kit, k⟩
theorem g_isV {D a : Addr} {Q : VK} (T : ExcC K D) (v : PySem.W.kitOne K (.ref D) (.type "ValueError") = some true) (k : Q (.bl true) H) : rIsEx K a (.ref D) none [.ref a, .ty "ValueError"] H Q := ⟨D, rfl, rfl, T, _, _, true, rfl, fun u r => by cases r; rfl, v, k⟩
end
end Wk
/-! lines as plain data: a first hold and pairs of a cut and the hold behind it -/
namespace Cut
section
variable {α : Type}
def at_ (v : α) : List (Int × α) → Int → α
  | [], _ => v
  | (c, h) :: r, x => at_ (if c ≤ x then h else v) r x
def dup (c : Int) : List (Int × α) → Bool
  | [] => false
  | (d, _) :: _ => decide (d = c)
def keepB (eq : α → α → Bool) (v : α) : List (Int × α) → List (Int × α)
  | [] => []
  | (c, h) :: r => if dup c r = true then keepB eq v r else if eq h v = true then keepB eq v r else (c, h) :: keepB eq h r
abbrev Srt (ps : List (Int × α)) : Prop := ps.Pairwise fun p q => p.1 ≤ q.1
abbrev Ris (ps : List (Int × α)) : Prop := ps.Pairwise fun p q => p.1 < q.1
def Nrm (v : α) : List (Int × α) → Prop
  | [] => True
  | (_, h) :: r => h ≠ v ∧ Nrm h r
abbrev cuts (ps : List (Int × α)) : List Int := ps.map (·.1)
abbrev holds (v : α) (ps : List (Int × α)) : List α := v :: ps.map (·.2)
theorem hold_at {v : α} {ps : List (Int × α)} {i : Nat} {c : Int} {h : α} (hp : ps[i]? = some (c, h)) : (holds v ps)[i + 1]? = some h := by
  show (ps.map (·.2))[i]? = some h
  rw [List.getElem?_map, hp] <;> rfl
theorem holds_app {v : α} {ps : List (Int × α)} {c : Int} {h : α} : holds v (ps ++ [(c, h)]) = holds v ps ++ [h] := by simp [holds]
theorem cuts_app {ps : List (Int × α)} {c : Int} {h : α} : cuts (ps ++ [(c, h)]) = cuts ps ++ [c] := by simp [cuts]
theorem drop_at {ps : List (Int × α)} {i : Nat} {p : Int × α} (hp : ps[i]? = some p) : ps.drop i = p :: ps.drop (i + 1) := by
  obtain ⟨hi, e⟩ := List.getElem?_eq_some_iff.mp hp
  rw [List.drop_eq_getElem_cons hi, e]
theorem last_hold {v last : α} {acc : List (Int × α)} (h : (holds v acc)[acc.length]? = some last) : holds v acc = (holds v acc).dropLast ++ [last] := by
  have h1 := List.dropLast_concat_getLast (List.cons_ne_nil v (acc.map (·.2)))
  have h2 : (holds v acc).getLast (List.cons_ne_nil _ _) = last := by
    rw [List.getLast_eq_getElem]
    have h3 : (holds v acc).length - 1 = acc.length := by simp [holds]
    rw [List.getElem?_eq_getElem (by simp [holds])] at h
    have h4 := Option.some.inj h
    simp only [h3]
    exact h4
  rw [h2] at h1
  exact h1.symm
theorem Ris.srt {ps : List (Int × α)} (h : Ris ps) : Srt ps := h.imp fun {a b} x => by omega
theorem at_lo {ps : List (Int × α)} {x : Int} : ∀ {v : α}, (∀ p ∈ ps, x < p.1) → at_ v ps x = v := by
  induction ps with
  | nil => intro v _; rfl
  | cons p r ih =>
    intro v h
    obtain ⟨c, g⟩ := p
    have hc : x < c := h (c, g) List.mem_cons_self
    show at_ (if c ≤ x then g else v) r x = v
    rw [if_neg (by omega)]
    exact ih fun p hp => h p (List.mem_cons_of_mem _ hp)
theorem at_cons {v : α} {c : Int} {h : α} {r : List (Int × α)} {x : Int} : at_ v ((c, h) :: r) x = at_ (if c ≤ x then h else v) r x := rfl
theorem at_append {v : α} {ps qs : List (Int × α)} {x : Int} : at_ v (ps ++ qs) x = at_ (at_ v ps x) qs x := by
  induction ps generalizing v with
  | nil => rfl
  | cons p r ih =>
    obtain ⟨c, h⟩ := p
    exact ih
theorem at_hi {v : α} {ps : List (Int × α)} {c : Int} {h : α} {x : Int} (hc : c ≤ x) : at_ v (ps ++ [(c, h)]) x = h := by
  rw [at_append, at_cons, if_pos hc]
  rfl
theorem keepB_sub (eq : α → α → Bool) : ∀ (ps : List (Int × α)) (v : α), (keepB eq v ps).Sublist ps
  | [], _ => List.Sublist.slnil
  | (c, h) :: r, v => by
    unfold keepB
    split
    · exact (keepB_sub eq r v).cons _
    · split
      · exact (keepB_sub eq r v).cons _
      · exact (keepB_sub eq r h).cons₂ _
theorem keepB_mem {eq : α → α → Bool} {ps : List (Int × α)} {v : α} {p : Int × α} (h : p ∈ keepB eq v ps) : p ∈ ps := (keepB_sub eq ps v).subset h
theorem keepB_len {eq : α → α → Bool} {ps : List (Int × α)} {v : α} : (keepB eq v ps).length ≤ ps.length := (keepB_sub eq ps v).length_le
theorem keepB_ris {eq : α → α → Bool} : ∀ {ps : List (Int × α)} {v : α}, Srt ps → Ris (keepB eq v ps)
  | [], _, _ => List.Pairwise.nil
  | (c, h) :: r, v, hs => by
    obtain ⟨h1, h2⟩ := List.pairwise_cons.mp hs
    unfold keepB
    split
    · exact keepB_ris h2
    · split
      · exact keepB_ris h2
      · refine List.pairwise_cons.mpr ⟨fun p hp => ?_, keepB_ris h2⟩
        rename_i hd _
        have hp' := keepB_mem hp
        cases r with
        | nil => cases hp'
        | cons q r' =>
          have hq : q.1 ≠ c := fun e => hd (by show decide (q.1 = c) = true; exact decide_eq_true e)
          have hq1 : c ≤ q.1 := h1 q List.mem_cons_self
          show c < p.1
          rcases List.mem_cons.mp hp' with e | hr
          · rw [e]; omega
          · have := (List.pairwise_cons.mp h2).1 p hr
            omega
theorem at_dup {v : α} {c : Int} {h : α} {r : List (Int × α)} (hd : dup c r = true) (x : Int) : at_ v ((c, h) :: r) x = at_ v r x := by
  cases r with
  | nil => cases hd
  | cons q r =>
    obtain ⟨d, g⟩ := q
    have e : d = c := of_decide_eq_true hd
    subst e
    rw [at_cons, at_cons, at_cons]
    by_cases hx : d ≤ x
    · rw [if_pos hx, if_pos hx]
    · rw [if_neg hx, if_neg hx, if_neg hx]
/-- the one form does what was told -/
theorem at_keepB {eq : α → α → Bool} (heq : ∀ a b, eq a b = true → a = b) : ∀ {ps : List (Int × α)} {v : α}, Srt ps → ∀ x, at_ v (keepB eq v ps) x = at_ v ps x
  | [], _, _, _ => rfl
  | (c, h) :: r, v, hs, x => by
    obtain ⟨h1, h2⟩ := List.pairwise_cons.mp hs
    unfold keepB
    split
    · rename_i hd
      rw [at_dup hd]
      exact at_keepB heq h2 x
    · split
      · rename_i he
        have e := heq _ _ he
        subst e
        rw [at_keepB heq h2 x, at_cons]
        split <;> rfl
      · rw [at_cons, at_cons]
        by_cases hx : c ≤ x
        · rw [if_pos hx]
          exact at_keepB heq h2 x
        · rw [if_neg hx, at_lo, at_lo]
          · intro p hp
            have : c ≤ p.1 := h1 p hp
            omega
          · intro p hp
            have : c ≤ p.1 := h1 p (keepB_mem hp)
            omega
theorem keepB_nrm {eq : α → α → Bool} (heq : ∀ a, eq a a = true) : ∀ (ps : List (Int × α)) (v : α), Nrm v (keepB eq v ps)
  | [], _ => True.intro
  | (c, h) :: r, v => by
    unfold keepB
    split
    · exact keepB_nrm heq r v
    · split
      · exact keepB_nrm heq r v
      · rename_i hn
        refine ⟨fun e => hn ?_, keepB_nrm heq r h⟩
        rw [e]
        exact heq v
theorem at_at {c : Int} {h : α} {r : List (Int × α)} {v : α} (hr : Ris ((c, h) :: r)) : at_ v ((c, h) :: r) c = h := by
  rw [at_cons, if_pos (Int.le_refl c)]
  exact at_lo fun p hp => (List.pairwise_cons.mp hr).1 p hp
/-- two lines in the one form that hold alike everywhere are alike -/
theorem uniq : ∀ {ps qs : List (Int × α)} {v : α}, Ris ps → Nrm v ps → Ris qs → Nrm v qs → (∀ x, at_ v ps x = at_ v qs x) → ps = qs
  | [], [], _, _, _, _, _, _ => rfl
  | [], (c, h) :: r, v, _, _, hr, hn, e => by
    have q := e c
    rw [at_at hr] at q
    exact absurd q.symm hn.1
  | (c, h) :: r, [], v, hr, hn, _, _, e => by
    have q := e c
    rw [at_at hr] at q
    exact absurd q hn.1
  | (c, h) :: r, (d, g) :: s, v, hr, hn, hr', hn', e => by
    have hcd : c = d := by
      rcases Int.lt_trichotomy c d with z | z | z
      · have q := e c
        rw [at_at hr, at_lo] at q
        · exact absurd q hn.1
        · intro p hp
          rcases List.mem_cons.mp hp with y | y
          · rw [y]; exact z
          · have := (List.pairwise_cons.mp hr').1 p y
            show c < p.1
            have : d < p.1 := this
            omega
      · exact z
      · have q := e d
        rw [at_at hr', at_lo] at q
        · exact absurd q.symm hn'.1
        · intro p hp
          rcases List.mem_cons.mp hp with y | y
          · rw [y]; exact z
          · have : c < p.1 := (List.pairwise_cons.mp hr).1 p y
            omega
    subst hcd
    have q := e c
    rw [at_at hr, at_at hr'] at q
    subst q
    have t : r = s := uniq (v := h) (List.pairwise_cons.mp hr).2 hn.2 (List.pairwise_cons.mp hr').2 hn'.2 fun x => by
      by_cases hx : c ≤ x
      · have z := e x
        rw [at_cons, at_cons, if_pos hx] at z
        exact z
      · rw [at_lo, at_lo]
        · intro p hp
          have : c < p.1 := (List.pairwise_cons.mp hr').1 p hp
          omega
        · intro p hp
          have : c < p.1 := (List.pairwise_cons.mp hr).1 p hp
          omega
    rw [t]
theorem low (ps : List (Int × α)) (b : Int) : ∃ x, x ≤ b ∧ ∀ p ∈ ps, x < p.1 := by
  induction ps with
  | nil => exact ⟨b, Int.le_refl b, fun _ h => nomatch h⟩
  | cons p r ih =>
    obtain ⟨x, h1, h2⟩ := ih
    refine ⟨min x (p.1 - 1), by omega, fun q hq => ?_⟩
    rcases List.mem_cons.mp hq with e | e
    · rw [e]; omega
    · have := h2 q e
      omega
theorem uniq' {ps qs : List (Int × α)} {v w : α} (hp : Ris ps) (np : Nrm v ps) (hq : Ris qs) (nq : Nrm w qs) (e : ∀ x, at_ v ps x = at_ w qs x) : v = w ∧ ps = qs := by
  have hv : v = w := by
    obtain ⟨x, _, h1⟩ := low (ps ++ qs) 0
    have q := e x
    rw [at_lo fun p hp => h1 p (List.mem_append_left _ hp), at_lo fun p hp => h1 p (List.mem_append_right _ hp)] at q
    exact q
  subst hv
  exact ⟨rfl, uniq hp np hq nq e⟩
/-- a line holds one of its holds -/
theorem at_mem {v : α} {ps : List (Int × α)} {x : Int} : at_ v ps x ∈ holds v ps := by
  induction ps generalizing v with
  | nil => exact List.mem_cons_self
  | cons p r ih =>
    obtain ⟨c, h⟩ := p
    rw [at_cons]
    have q := ih (v := if c ≤ x then h else v)
    rcases List.mem_cons.mp q with e | e
    · rw [e]
      split
      · exact List.mem_cons_of_mem _ List.mem_cons_self
      · exact List.mem_cons_self
    · exact List.mem_cons_of_mem _ (List.mem_cons_of_mem _ e)
/-- between two places with no cut a line holds one thing -/
theorem at_steps {ps : List (Int × α)} {v : α} {x y : Int} (hxy : x ≤ y) (h : ∀ p ∈ ps, p.1 ≤ x ∨ y < p.1) : at_ v ps x = at_ v ps y := by
  induction ps generalizing v with
  | nil => rfl
  | cons p r ih =>
    obtain ⟨c, g⟩ := p
    rw [at_cons, at_cons]
    have hc : c ≤ x ∨ y < c := h (c, g) List.mem_cons_self
    have e : (if c ≤ x then g else v) = (if c ≤ y then g else v) := by
      rcases hc with z | z
      · rw [if_pos z, if_pos (by omega)]
      · rw [if_neg (by omega), if_neg (by omega)]
    rw [e]
    exact ih fun p hp => h p (List.mem_cons_of_mem _ hp)
section
variable [DecidableEq α]
abbrev keep (v : α) (ps : List (Int × α)) : List (Int × α) := keepB (fun a b => decide (a = b)) v ps
theorem at_keep {ps : List (Int × α)} {v : α} (hs : Srt ps) (x : Int) : at_ v (keep v ps) x = at_ v ps x := at_keepB (fun _ _ h => of_decide_eq_true h) hs x
theorem keep_nrm (ps : List (Int × α)) (v : α) : Nrm v (keep v ps) := keepB_nrm (eq := fun a b => decide (a = b)) (fun a => by simp) ps v
theorem keep_ris {ps : List (Int × α)} {v : α} (hs : Srt ps) : Ris (keep v ps) := keepB_ris hs
/-- a function written down at edges -/
def walkE (f : Int → α) (v : α) : List Int → List (Int × α)
  | [] => []
  | e :: es => if f e = v then walkE f v es else (e, f e) :: walkE f (f e) es
theorem walkE_mem {f : Int → α} : ∀ {es : List Int} {v : α} {p : Int × α}, p ∈ walkE f v es → p.1 ∈ es ∧ p.2 = f p.1
  | [], _, _, h => nomatch h
  | e :: es, v, p, h => by
    unfold walkE at h
    split at h
    · exact ⟨List.mem_cons_of_mem _ (walkE_mem h).1, (walkE_mem h).2⟩
    · rcases List.mem_cons.mp h with z | z
      · rw [z]; exact ⟨List.mem_cons_self, rfl⟩
      · exact ⟨List.mem_cons_of_mem _ (walkE_mem z).1, (walkE_mem z).2⟩
theorem walkE_ris {f : Int → α} : ∀ {es : List Int} {v : α}, es.Pairwise (· < ·) → Ris (walkE f v es)
  | [], _, _ => List.Pairwise.nil
  | e :: es, v, h => by
    obtain ⟨h1, h2⟩ := List.pairwise_cons.mp h
    unfold walkE
    split
    · exact walkE_ris h2
    · exact List.pairwise_cons.mpr ⟨fun p hp => h1 _ (walkE_mem hp).1, walkE_ris h2⟩
theorem walkE_nrm {f : Int → α} : ∀ {es : List Int} {v : α}, Nrm v (walkE f v es)
  | [], _ => True.intro
  | e :: es, v => by
    unfold walkE
    split
    · exact walkE_nrm
    · exact ⟨by assumption, walkE_nrm⟩
abbrev StepsAt (f : Int → α) (es : List Int) : Prop := ∀ x y, x ≤ y → (∀ e ∈ es, e ≤ x ∨ y < e) → f x = f y
theorem walk_ge {f : Int → α} : ∀ {es : List Int} {v : α} {b : Int}, es.Pairwise (· < ·) → (∀ e ∈ es, b ≤ e) → f b = v → (∀ x y, b ≤ x → x ≤ y → (∀ e ∈ es, e ≤ x ∨ y < e) → f x = f y) → ∀ x, b ≤ x → at_ v (walkE f v es) x = f x
  | [], v, b, _, _, hv, hst, x, hx => by
    rw [← hv]
    exact hst b x (Int.le_refl b) hx fun _ h => nomatch h
  | e :: es, v, b, hp, hb, hv, hst, x, hx => by
    obtain ⟨h1, h2⟩ := List.pairwise_cons.mp hp
    have hbe := hb e List.mem_cons_self
    by_cases hxe : x < e
    · have q : f b = f x := hst b x (Int.le_refl b) hx fun e' he' => by
        rcases List.mem_cons.mp he' with z | z
        · right; omega
        · right
          have := h1 e' z
          omega
      rw [at_lo, ← hv, q]
      intro p hp'
      have := (walkE_mem hp').1
      rcases List.mem_cons.mp this with z | z
      · rw [z]; exact hxe
      · have := h1 _ z
        omega
    · have hst' : ∀ x y, e ≤ x → x ≤ y → (∀ e' ∈ es, e' ≤ x ∨ y < e') → f x = f y := fun x y h3 h4 h5 => hst x y (by omega) h4 fun e' he' => by
        rcases List.mem_cons.mp he' with z | z
        · left; omega
        · exact h5 e' z
      unfold walkE
      split
      · rename_i hfe
        exact walk_ge h2 (fun e' he' => by have := h1 e' he'; omega) hfe hst' x (by omega)
      · rw [at_cons, if_pos (by omega)]
        exact walk_ge h2 (fun e' he' => by have := h1 e' he'; omega) rfl hst' x (by omega)
theorem low' (es : List Int) (b : Int) : ∃ x, x ≤ b ∧ ∀ e ∈ es, x < e := by
  obtain ⟨x, h1, h2⟩ := low (es.map fun e => (e, ())) b
  exact ⟨x, h1, fun e he => h2 (e, ()) (List.mem_map.mpr ⟨e, he, rfl⟩)⟩
theorem at_walk {f : Int → α} {es : List Int} {v : α} (hp : es.Pairwise (· < ·)) (hlo : ∀ x, (∀ e ∈ es, x < e) → f x = v) (hst : StepsAt f es) (x : Int) : at_ v (walkE f v es) x = f x := by
  obtain ⟨b, h1, h2⟩ := low' es x
  exact walk_ge hp (fun e he => by have := h2 e he; omega) (hlo b h2) (fun x y _ h => hst x y h) x h1
/-- the master: a line in the one form is what its own doing tells, written down at any edges that have its cuts -/
theorem walk_is {f : Int → α} {es : List Int} {v w : α} {ps : List (Int × α)} (hp : es.Pairwise (· < ·)) (hlo : ∀ x, (∀ e ∈ es, x < e) → f x = w) (hst : StepsAt f es)
    (hr : Ris ps) (hn : Nrm v ps) (h : ∀ x, at_ v ps x = f x) : v = w ∧ ps = walkE f w es :=
  uniq' hr hn (walkE_ris hp) walkE_nrm fun x => (h x).trans (at_walk hp hlo hst x).symm
theorem keep_is {es : List Int} {v : α} {ps : List (Int × α)} (hp : es.Pairwise (· < ·)) (hm : ∀ k, k ∈ es ↔ k ∈ cuts ps) (hs : Srt ps) : keep v ps = walkE (at_ v ps) v es :=
  (walk_is (f := at_ v ps) (w := v) hp (fun x h => at_lo fun p hp' => h _ ((hm _).mpr (List.mem_map.mpr ⟨p, hp', rfl⟩))) (fun x y hxy h => at_steps hxy fun p hp' => h _ ((hm _).mpr (List.mem_map.mpr ⟨p, hp', rfl⟩)))
    (keep_ris hs) (keep_nrm ps v) (at_keep hs)).2
end
end
end Cut
/-! deeds on lines, as plain data -/
namespace Cut
section
variable {α : Type}
theorem at_congr {v : α} {ps : List (Int × α)} {x y : Int} (h : ∀ p ∈ ps, (p.1 ≤ x ↔ p.1 ≤ y)) : at_ v ps x = at_ v ps y := by
  induction ps generalizing v with
  | nil => rfl
  | cons p r ih =>
    obtain ⟨c, g⟩ := p
    rw [at_cons, at_cons]
    have e : (if c ≤ x then g else v) = (if c ≤ y then g else v) := by
      have := h (c, g) List.mem_cons_self
      by_cases q : c ≤ x
      · rw [if_pos q, if_pos (this.mp q)]
      · rw [if_neg q, if_neg fun z => q (this.mpr z)]
    rw [e]
    exact ih fun p hp => h p (List.mem_cons_of_mem _ hp)
theorem at_filter {b : Int × α → Bool} {v : α} {ps : List (Int × α)} {x : Int} (h : ∀ p ∈ ps, p.1 ≤ x → b p = true) : at_ v (ps.filter b) x = at_ v ps x := by
  induction ps generalizing v with
  | nil => rfl
  | cons p r ih =>
    obtain ⟨c, g⟩ := p
    rw [at_cons]
    have ih' := fun v => ih (v := v) fun p hp => h p (List.mem_cons_of_mem _ hp)
    cases hb : b (c, g) with
    | true => rw [List.filter_cons, if_pos hb, at_cons, ih']
    | false =>
      have q : ¬ c ≤ x := fun z => by have := h (c, g) List.mem_cons_self z; rw [hb] at this; cases this
      rw [List.filter_cons, hb, if_neg Bool.false_ne_true, if_neg q, ih']
theorem at_map {γ : Int → Int} {v : α} {ps : List (Int × α)} {x y : Int} (h : ∀ p ∈ ps, (γ p.1 ≤ x ↔ p.1 ≤ y)) : at_ v (ps.map fun p => (γ p.1, p.2)) x = at_ v ps y := by
  induction ps generalizing v with
  | nil => rfl
  | cons p r ih =>
    obtain ⟨c, g⟩ := p
    rw [List.map_cons, at_cons, at_cons]
    have e : (if γ c ≤ x then g else v) = (if c ≤ y then g else v) := by
      have := h (c, g) List.mem_cons_self
      by_cases q : γ c ≤ x
      · rw [if_pos q, if_pos (this.mp q)]
      · rw [if_neg q, if_neg fun z => q (this.mpr z)]
    rw [e]
    exact ih fun p hp => h p (List.mem_cons_of_mem _ hp)
/-- the pairs ahead of a place, those behind it -/
abbrev lo (x : Int) (ps : List (Int × α)) : List (Int × α) := ps.filter fun p => decide (p.1 < x)
abbrev hi (x : Int) (ps : List (Int × α)) : List (Int × α) := ps.filter fun p => decide (x < p.1)
theorem lo_lt {x : Int} {ps : List (Int × α)} {p : Int × α} (h : p ∈ lo x ps) : p.1 < x := of_decide_eq_true (List.mem_filter.mp h).2
theorem hi_lt {x : Int} {ps : List (Int × α)} {p : Int × α} (h : p ∈ hi x ps) : x < p.1 := of_decide_eq_true (List.mem_filter.mp h).2
theorem lo_mem {x : Int} {ps : List (Int × α)} {p : Int × α} (h : p ∈ lo x ps) : p ∈ ps := (List.mem_filter.mp h).1
theorem hi_mem {x : Int} {ps : List (Int × α)} {p : Int × α} (h : p ∈ hi x ps) : p ∈ ps := (List.mem_filter.mp h).1
theorem srt_filter {b : Int × α → Bool} {ps : List (Int × α)} (h : Srt ps) : Srt (ps.filter b) := h.sublist List.filter_sublist
theorem srt_split {ps : List (Int × α)} (h : Srt ps) (x : Int) : ps = (ps.filter fun p => decide (p.1 ≤ x)) ++ hi x ps := by
  induction ps with
  | nil => rfl
  | cons p r ih =>
    obtain ⟨h1, h2⟩ := List.pairwise_cons.mp h
    show p :: r = _
    by_cases q : p.1 ≤ x
    · rw [hi, List.filter_cons, if_pos (decide_eq_true q), List.filter_cons, if_neg (by simp; omega), List.cons_append]
      exact congrArg _ (ih h2)
    · have e1 : (p :: r).filter (fun p => decide (p.1 ≤ x)) = [] := List.filter_eq_nil_iff.mpr fun a ha => by
        rcases List.mem_cons.mp ha with z | z
        · rw [z]; simpa using q
        · have := h1 a z
          simp; omega
      have e2 : hi x (p :: r) = p :: r := List.filter_eq_self.mpr fun a ha => by
        rcases List.mem_cons.mp ha with z | z
        · rw [z]; simp; omega
        · have := h1 a z
          simp; omega
      rw [e1, e2, List.nil_append]
theorem at_lo_of {v : α} {ps : List (Int × α)} {s x : Int} (h : x < s) : at_ v (lo s ps) x = at_ v ps x := at_filter fun p _ hp => decide_eq_true (by omega)
theorem at_lo_all {v : α} {ps : List (Int × α)} {s x y : Int} (h1 : s - 1 ≤ x) (h2 : s - 1 ≤ y) : at_ v (lo s ps) x = at_ v (lo s ps) y := at_congr fun p hp => by
  have := lo_lt hp
  omega
theorem at_hi_of {v : α} {ps : List (Int × α)} {e x : Int} (h : Srt ps) (hx : e ≤ x) : at_ (at_ v ps e) (hi e ps) x = at_ v ps x := by
  have e1 : at_ v ps x = at_ (at_ v (ps.filter fun p => decide (p.1 ≤ e)) x) (hi e ps) x := by
    conv => lhs; rw [srt_split h e]
    exact at_append
  have e2 : at_ v (ps.filter fun p => decide (p.1 ≤ e)) x = at_ v (ps.filter fun p => decide (p.1 ≤ e)) e := at_congr fun p hp => by
    have : p.1 ≤ e := of_decide_eq_true (List.mem_filter.mp hp).2
    omega
  have e3 : at_ v (ps.filter fun p => decide (p.1 ≤ e)) e = at_ v ps e := at_filter fun p _ hp => decide_eq_true hp
  rw [e1, e2, e3]
theorem at_hi_lo {v : α} {ps : List (Int × α)} {e x : Int} (hx : x ≤ e) : at_ v (hi e ps) x = v := at_lo fun p hp => by
  have := hi_lt hp
  omega
/-- how many cuts are no further than x -/
theorem at_count {v : α} {ps : List (Int × α)} {x : Int} (h : Srt ps) : (holds v ps)[(cuts ps).countP fun c => decide (c ≤ x)]? = some (at_ v ps x) := by
  induction ps generalizing v with
  | nil => rfl
  | cons p r ih =>
    obtain ⟨c, g⟩ := p
    obtain ⟨h1, h2⟩ := List.pairwise_cons.mp h
    rw [at_cons]
    by_cases q : c ≤ x
    · rw [if_pos q, ← ih (v := g) h2]
      show (holds v ((c, g) :: r))[(c :: cuts r).countP fun c => decide (c ≤ x)]? = _
      rw [List.countP_cons_of_pos (by simpa using q)] <;> rfl
    · have e : (cuts ((c, g) :: r)).countP (fun c => decide (c ≤ x)) = 0 := List.countP_eq_zero.mpr fun a ha => by
        obtain ⟨b, hb, rfl⟩ := List.mem_map.mp ha
        rcases List.mem_cons.mp hb with z | z
        · rw [z]; simpa using q
        · have : c ≤ b.1 := h1 b z
          simp; omega
      rw [e, if_neg q]
      have e2 : at_ v r x = v := at_lo fun p hp => by
        have : c ≤ p.1 := h1 p hp
        omega
      rw [e2] <;> rfl
theorem cuts_lo {ps : List (Int × α)} {x : Int} : cuts (lo x ps) = (cuts ps).filter fun c => decide (c < x) := by
  show (ps.filter _).map _ = (ps.map _).filter _
  rw [List.filter_map] <;> rfl
theorem cuts_hi {ps : List (Int × α)} {x : Int} : cuts (hi x ps) = (cuts ps).filter fun c => decide (x < c) := by
  show (ps.filter _).map _ = (ps.map _).filter _
  rw [List.filter_map] <;> rfl
theorem lo_take {ps : List (Int × α)} (h : Srt ps) (x : Int) : lo x ps = ps.take (lo x ps).length := by
  have e := srt_split h (x - 1)
  have e1 : (ps.filter fun p => decide (p.1 ≤ x - 1)) = lo x ps := List.filter_congr fun p _ => by
    refine decide_eq_decide.mpr ?_
    omega
  rw [e1] at e
  have e3 : ps.take (lo x ps).length = (lo x ps ++ hi (x - 1) ps).take (lo x ps).length := congrArg (fun z => z.take (lo x ps).length) e
  rw [e3, List.take_left' rfl]
theorem hi_drop {ps : List (Int × α)} (h : Srt ps) (x : Int) : hi x ps = ps.drop (ps.length - (hi x ps).length) := by
  have e := srt_split h x
  have l := congrArg List.length e
  rw [List.length_append] at l
  have l2 : ps.length - (hi x ps).length = (ps.filter fun p => decide (p.1 ≤ x)).length := by omega
  rw [l2]
  have e3 : ps.drop (ps.filter fun p => decide (p.1 ≤ x)).length = ((ps.filter fun p => decide (p.1 ≤ x)) ++ hi x ps).drop (ps.filter fun p => decide (p.1 ≤ x)).length := congrArg (fun z => z.drop (ps.filter fun p => decide (p.1 ≤ x)).length) e
  rw [e3, List.drop_left' rfl]
end
section
variable {α : Type}
/-- deeds -/
inductive Deed (α : Type) where
  | put (s e : Option Int) (v : α)
  | opn (p n : Int)
  | cls (p n : Int)
  | str (t : Int)
def Deed.ok : Deed α → Prop
  | .put _ _ _ => True
  | .opn _ n => 0 ≤ n
  | .cls _ n => 0 ≤ n
  | .str t => 1 ≤ t
def inPut (s e : Option Int) (x : Int) : Bool := (match s with | none => true | some a => decide (a ≤ x)) && (match e with | none => true | some b => decide (x < b))
/-- what a deed makes of what a line holds -/
def back (o : α) (f : Int → α) : Deed α → Int → α
  | .put s e v, x => if inPut s e x = true then v else f x
  | .opn p n, x => if x < p then f x else if x < p + n then o else f (x - n)
  | .cls p n, x => if x < p then f x else f (x + n)
  | .str t, x => f (x / t)
theorem back_put {o : α} {f : Int → α} {s e : Option Int} {v : α} {x : Int} : back o f (.put s e v) x = if inPut s e x = true then v else f x := rfl
theorem back_opn {o : α} {f : Int → α} {p n x : Int} : back o f (.opn p n) x = if x < p then f x else if x < p + n then o else f (x - n) := rfl
theorem back_cls {o : α} {f : Int → α} {p n x : Int} : back o f (.cls p n) x = if x < p then f x else f (x + n) := rfl
def inL (s : Option Int) (x : Int) : Bool := match s with | none => true | some a => decide (a ≤ x)
def inR (e : Option Int) (x : Int) : Bool := match e with | none => true | some b => decide (x < b)
theorem in_LR {s e : Option Int} {x : Int} : inPut s e x = (inL s x && inR e x) := rfl
theorem in_nn {x : Int} : inPut none none x = true := rfl
theorem in_ns {b x : Int} : inPut none (some b) x = decide (x < b) := rfl
theorem in_sn {a x : Int} : inPut (some a) none x = decide (a ≤ x) := Bool.and_true _
theorem in_ss {a b x : Int} : inPut (some a) (some b) x = (decide (a ≤ x) && decide (x < b)) := rfl
/-- the pairs that the program tells behind a deed -/
def putPs (v : α) (ps : List (Int × α)) (w : α) : Option Int → Option Int → α × List (Int × α)
  | none, none => (w, [])
  | some s, none => (v, lo s ps ++ [(s, w)])
  | none, some e => (w, (e, at_ v ps e) :: hi e ps)
  | some s, some e => (v, lo s ps ++ (s, w) :: (e, at_ v ps e) :: hi e ps)
def opnPs (o v : α) (ps : List (Int × α)) (p n : Int) : List (Int × α) := lo p ps ++ (p, o) :: (p + n, at_ v ps p) :: (hi p ps).map fun q => (q.1 + n, q.2)
def clsPs (v : α) (ps : List (Int × α)) (p n : Int) : List (Int × α) := lo p ps ++ (p, at_ v ps (p + n)) :: (hi (p + n) ps).map fun q => (q.1 - n, q.2)
def strPs (ps : List (Int × α)) (t : Int) : List (Int × α) := ps.map fun q => (q.1 * t, q.2)
theorem srt_app {ps qs : List (Int × α)} {c : Int} {h : α} (h1 : Srt ps) (h2 : ∀ p ∈ ps, p.1 ≤ c) (h3 : Srt qs) (h4 : ∀ q ∈ qs, c ≤ q.1) : Srt (ps ++ (c, h) :: qs) :=
  List.pairwise_append.mpr ⟨h1, List.pairwise_cons.mpr ⟨h4, h3⟩, fun p hp q hq => by
    rcases List.mem_cons.mp hq with z | z
    · rw [z]; exact h2 p hp
    · have := h2 p hp
      have := h4 q z
      omega⟩
theorem srt_map {γ : Int → Int} {ps : List (Int × α)} (h : Srt ps) (m : ∀ a b, a ≤ b → γ a ≤ γ b) : Srt (ps.map fun q => (γ q.1, q.2)) := List.pairwise_map.mpr (h.imp fun {a b} x => m _ _ x)
theorem srt_putPs {v w : α} {ps : List (Int × α)} {s e : Option Int} (h : Srt ps) (hse : ∀ a b, s = some a → e = some b → a < b) : Srt (putPs v ps w s e).2 := by
  cases s with
  | none =>
    cases e with
    | none => exact List.Pairwise.nil
    | some b => exact List.pairwise_cons.mpr ⟨fun q hq => Int.le_of_lt (hi_lt hq), srt_filter h⟩
  | some a =>
    cases e with
    | none => exact srt_app (srt_filter h) (fun p hp => Int.le_of_lt (lo_lt hp)) List.Pairwise.nil (fun _ h => nomatch h)
    | some b =>
      have hab := hse a b rfl rfl
      refine srt_app (srt_filter h) (fun p hp => Int.le_of_lt (lo_lt hp)) (List.pairwise_cons.mpr ⟨fun q hq => Int.le_of_lt (hi_lt hq), srt_filter h⟩) fun q hq => ?_
      rcases List.mem_cons.mp hq with z | z
      · rw [z]; exact Int.le_of_lt hab
      · have := hi_lt z
        omega
theorem at_putPs {o v w : α} {ps : List (Int × α)} {s e : Option Int} (h : Srt ps) (hse : ∀ a b, s = some a → e = some b → a < b) (x : Int) : at_ (putPs v ps w s e).1 (putPs v ps w s e).2 x = back o (at_ v ps) (.put s e w) x := by
  rw [back_put]
  cases s with
  | none =>
    cases e with
    | none => simp [putPs, at_, in_nn]
    | some b =>
      rw [in_ns]
      show at_ w ((b, at_ v ps b) :: hi b ps) x = _
      rw [at_cons]
      by_cases q : b ≤ x
      · rw [if_pos q, at_hi_of h q, if_neg (by simp; omega)]
      · rw [if_neg q, at_hi_lo (by omega), if_pos (by simp; omega)]
  | some a =>
    cases e with
    | none =>
      rw [in_sn]
      show at_ v (lo a ps ++ [(a, w)]) x = _
      rw [at_append, at_cons]
      by_cases q : a ≤ x
      · rw [if_pos q, if_pos (by simpa using q)]
        rfl
      · rw [if_neg q, if_neg (by simpa using q)]
        exact at_lo_of (by omega)
    | some b =>
      have hab := hse a b rfl rfl
      rw [in_ss]
      show at_ v (lo a ps ++ (a, w) :: (b, at_ v ps b) :: hi b ps) x = _
      rw [at_append, at_cons, at_cons]
      by_cases q : a ≤ x
      · rw [if_pos q]
        by_cases q2 : b ≤ x
        · rw [if_pos q2, at_hi_of h q2, if_neg (by simp; omega)]
        · rw [if_neg q2, at_hi_lo (by omega), if_pos (by simp; omega)]
      · rw [if_neg q, if_neg (by omega), at_hi_lo (by omega), if_neg (by simp; omega)]
        exact at_lo_of (by omega)
theorem put_empty {o v w : α} {ps : List (Int × α)} {a b : Int} (h : b ≤ a) (x : Int) : at_ v ps x = back o (at_ v ps) (.put (some a) (some b) w) x := by
  rw [back_put, in_ss, if_neg (by simp; omega)]
theorem srt_opnPs {o v : α} {ps : List (Int × α)} {p n : Int} (h : Srt ps) (hn : 0 ≤ n) : Srt (opnPs o v ps p n) := by
  refine srt_app (srt_filter h) (fun p hp => Int.le_of_lt (lo_lt hp)) (List.pairwise_cons.mpr ⟨fun q hq => ?_, srt_map (γ := fun c => c + n) (srt_filter h) fun a b z => by omega⟩) fun q hq => ?_
  · obtain ⟨r, hr, rfl⟩ := List.mem_map.mp hq
    have := hi_lt hr
    show p + n ≤ r.1 + n
    omega
  · rcases List.mem_cons.mp hq with z | z
    · rw [z]
      show p ≤ p + n
      omega
    · obtain ⟨r, hr, rfl⟩ := List.mem_map.mp z
      have := hi_lt hr
      show p ≤ r.1 + n
      omega
theorem at_opnPs {o v : α} {ps : List (Int × α)} {p n : Int} (h : Srt ps) (hn : 0 ≤ n) (x : Int) : at_ v (opnPs o v ps p n) x = back o (at_ v ps) (.opn p n) x := by
  unfold opnPs
  rw [back_opn, at_append, at_cons, at_cons, at_map (γ := fun c => c + n) (y := x - n) fun q _ => by show q.1 + n ≤ x ↔ _; omega]
  by_cases q : x < p
  · rw [if_pos q, if_neg (by omega), if_neg (by omega), at_hi_lo (by omega)]
    exact at_lo_of q
  · rw [if_neg q, if_pos (by omega : p ≤ x)]
    by_cases q2 : x < p + n
    · rw [if_pos q2, if_neg (by omega), at_hi_lo (by omega)]
    · rw [if_neg q2, if_pos (by omega), at_hi_of h (by omega)]
theorem srt_clsPs {v : α} {ps : List (Int × α)} {p n : Int} (h : Srt ps) (hn : 0 ≤ n) : Srt (clsPs v ps p n) := by
  refine srt_app (srt_filter h) (fun p hp => Int.le_of_lt (lo_lt hp)) (srt_map (γ := fun c => c - n) (srt_filter h) fun a b z => by omega) fun q hq => ?_
  obtain ⟨r, hr, rfl⟩ := List.mem_map.mp hq
  have := hi_lt hr
  show p ≤ r.1 - n
  omega
theorem at_clsPs {o v : α} {ps : List (Int × α)} {p n : Int} (h : Srt ps) (hn : 0 ≤ n) (x : Int) : at_ v (clsPs v ps p n) x = back o (at_ v ps) (.cls p n) x := by
  unfold clsPs
  rw [back_cls, at_append, at_cons, at_map (γ := fun c => c - n) (y := x + n) fun q _ => by show q.1 - n ≤ x ↔ _; omega]
  by_cases q : x < p
  · rw [if_pos q, if_neg (by omega), at_hi_lo (by omega)]
    exact at_lo_of q
  · rw [if_neg q, if_pos (by omega : p ≤ x), at_hi_of h (by omega)]
theorem srt_strPs {ps : List (Int × α)} {t : Int} (h : Srt ps) (ht : 1 ≤ t) : Srt (strPs ps t) := srt_map (γ := fun c => c * t) h fun a b z => Int.mul_le_mul_of_nonneg_right z (by omega)
theorem at_strPs {o v : α} {ps : List (Int × α)} {t : Int} (ht : 1 ≤ t) (x : Int) : at_ v (strPs ps t) x = back o (at_ v ps) (.str t) x := at_map (γ := fun c => c * t) fun q _ => by
  show q.1 * t ≤ x ↔ _
  exact (Int.le_ediv_iff_mul_le (by omega)).symm
/-! lengths, what is held -/
theorem len_lo {ps : List (Int × α)} {x : Int} : (lo x ps).length ≤ ps.length := List.length_filter_le _ _
theorem len_hi {ps : List (Int × α)} {x : Int} : (hi x ps).length ≤ ps.length := List.length_filter_le _ _
theorem len_lohi {ps : List (Int × α)} {a b : Int} (h : a ≤ b) : (lo a ps).length + (hi b ps).length ≤ ps.length := by
  induction ps with
  | nil => exact Nat.le_refl 0
  | cons p r ih =>
    rw [lo, hi, List.filter_cons, List.filter_cons]
    have ih : (r.filter fun p => decide (p.1 < a)).length + (r.filter fun p => decide (b < p.1)).length ≤ r.length := ih
    by_cases q : p.1 < a
    · rw [if_pos (decide_eq_true q), if_neg (by simp; omega)]
      simp only [List.length_cons]; omega
    · by_cases q2 : b < p.1
      · rw [if_neg (by simpa using q), if_pos (decide_eq_true q2)]
        simp only [List.length_cons]; omega
      · rw [if_neg (by simpa using q), if_neg (by simpa using q2)]
        simp only [List.length_cons]; omega
theorem len_putPs {v w : α} {ps : List (Int × α)} {s e : Option Int} (hse : ∀ a b, s = some a → e = some b → a < b) : (putPs v ps w s e).2.length ≤ ps.length + 2 := by
  cases s with
  | none =>
    cases e with
    | none => exact Nat.zero_le _
    | some b =>
      have := len_hi (ps := ps) (x := b)
      show (hi b ps).length + 1 ≤ _
      omega
  | some a =>
    cases e with
    | none =>
      have := len_lo (ps := ps) (x := a)
      show (lo a ps ++ [(a, w)]).length ≤ _
      rw [List.length_append, List.length_singleton]
      omega
    | some b =>
      have := len_lohi (ps := ps) (Int.le_of_lt (hse a b rfl rfl))
      show (lo a ps ++ (a, w) :: (b, at_ v ps b) :: hi b ps).length ≤ _
      rw [List.length_append, List.length_cons, List.length_cons]
      omega
theorem len_opnPs {o v : α} {ps : List (Int × α)} {p n : Int} : (opnPs o v ps p n).length ≤ ps.length + 2 := by
  have := len_lohi (ps := ps) (Int.le_refl p)
  unfold opnPs
  rw [List.length_append, List.length_cons, List.length_cons, List.length_map]
  omega
theorem len_clsPs {v : α} {ps : List (Int × α)} {p n : Int} (hn : 0 ≤ n) : (clsPs v ps p n).length ≤ ps.length + 2 := by
  have := len_lohi (ps := ps) (a := p) (b := p + n) (by omega)
  unfold clsPs
  rw [List.length_append, List.length_cons, List.length_map]
  omega
theorem at_mem' {v : α} {ps : List (Int × α)} {x : Int} {P : α → Prop} (h : ∀ y ∈ holds v ps, P y) : P (at_ v ps x) := h _ at_mem
theorem hold_of {v : α} {ps : List (Int × α)} {p : Int × α} (h : p ∈ ps) : p.2 ∈ holds v ps := List.mem_cons_of_mem _ (List.mem_map.mpr ⟨p, h, rfl⟩)
theorem all_holds {v : α} {ps : List (Int × α)} {P : α → Prop} (h0 : P v) (h : ∀ p ∈ ps, P p.2) : ∀ y ∈ holds v ps, P y := fun y hy => by
  rcases List.mem_cons.mp hy with z | z
  · rw [z]; exact h0
  · obtain ⟨p, hp, rfl⟩ := List.mem_map.mp z
    exact h p hp
theorem all_putPs {v w : α} {ps : List (Int × α)} {s e : Option Int} {P : α → Prop} (h : ∀ y ∈ holds v ps, P y) (hw : P w) : ∀ y ∈ holds (putPs v ps w s e).1 (putPs v ps w s e).2, P y := by
  have h0 : P v := h v List.mem_cons_self
  have hl : ∀ a, ∀ p ∈ lo a ps, P p.2 := fun a p hp => h _ (hold_of (lo_mem hp))
  have hh : ∀ a, ∀ p ∈ hi a ps, P p.2 := fun a p hp => h _ (hold_of (hi_mem hp))
  cases s with
  | none =>
    cases e with
    | none => exact all_holds hw fun _ h => nomatch h
    | some b =>
      refine all_holds hw fun p hp => ?_
      rcases List.mem_cons.mp hp with z | z
      · rw [z]; exact at_mem' h
      · exact hh b p z
  | some a =>
    cases e with
    | none =>
      refine all_holds h0 fun p hp => ?_
      rcases List.mem_append.mp hp with z | z
      · exact hl a p z
      · rw [List.mem_singleton.mp z]; exact hw
    | some b =>
      refine all_holds h0 fun p hp => ?_
      rcases List.mem_append.mp hp with z | z
      · exact hl a p z
      · rcases List.mem_cons.mp z with z | z
        · rw [z]; exact hw
        · rcases List.mem_cons.mp z with z | z
          · rw [z]; exact at_mem' h
          · exact hh b p z
theorem all_opnPs {o v : α} {ps : List (Int × α)} {p n : Int} {P : α → Prop} (h : ∀ y ∈ holds v ps, P y) (ho : P o) : ∀ y ∈ holds v (opnPs o v ps p n), P y :=
  all_holds (h v List.mem_cons_self) fun q hq => by
    rcases List.mem_append.mp hq with z | z
    · exact h _ (hold_of (lo_mem z))
    · rcases List.mem_cons.mp z with z | z
      · rw [z]; exact ho
      · rcases List.mem_cons.mp z with z | z
        · rw [z]; exact at_mem' h
        · obtain ⟨r, hr, rfl⟩ := List.mem_map.mp z
          exact h r.2 (hold_of (p := r) (hi_mem hr))
theorem all_clsPs {v : α} {ps : List (Int × α)} {p n : Int} {P : α → Prop} (h : ∀ y ∈ holds v ps, P y) : ∀ y ∈ holds v (clsPs v ps p n), P y :=
  all_holds (h v List.mem_cons_self) fun q hq => by
    rcases List.mem_append.mp hq with z | z
    · exact h _ (hold_of (lo_mem z))
    · rcases List.mem_cons.mp z with z | z
      · rw [z]; exact at_mem' h
      · obtain ⟨r, hr, rfl⟩ := List.mem_map.mp z
        exact h r.2 (hold_of (p := r) (hi_mem hr))
theorem all_strPs {v : α} {ps : List (Int × α)} {t : Int} {P : α → Prop} (h : ∀ y ∈ holds v ps, P y) : ∀ y ∈ holds v (strPs ps t), P y :=
  all_holds (h v List.mem_cons_self) fun q hq => by
    obtain ⟨r, hr, rfl⟩ := List.mem_map.mp hq
    exact h r.2 (hold_of (p := r) hr)
/-- where a deed carries a place -/
def moved : Deed α → Int → Int
  | .put _ _ _, x => x
  | .opn p n, x => if x ≥ p then x + n else x
  | .cls p n, x => if x ≥ p then max p (x - n) else x
  | .str t, x => x * t
/-! ### the places at which something may change -/
abbrev Steps (f : Int → α) (es : List Int) : Prop := ∀ x y, x ≤ y → (∀ e ∈ es, e ≤ x ∨ y < e) → f x = f y
theorem steps_at {v : α} {ps : List (Int × α)} : Steps (at_ v ps) (cuts ps) := fun x y hxy h => at_steps hxy fun p hp => h _ (List.mem_map.mpr ⟨p, hp, rfl⟩)
theorem steps_mono {f : Int → α} {es es' : List Int} (h : Steps f es) (hs : ∀ e ∈ es, e ∈ es') : Steps f es' := fun x y hxy hx => h x y hxy fun e he => hx e (hs e he)
/-- the edges behind a deed -/
def optL : Option Int → List Int
  | none => []
  | some a => [a]
def edges (es : List Int) : Deed α → List Int
  | .put s e _ => es ++ (optL s ++ optL e)
  | .opn p n => (es.map fun e => if e ≥ p then e + n else e) ++ [p, p + n]
  | .cls p n => (es.map fun e => max (min e p) (e - n)) ++ [p]
  | .str t => es.map fun e => e * t
theorem steps_edges {o : α} {f : Int → α} {es : List Int} {d : Deed α} (hd : d.ok) (h : Steps f es) : Steps (back o f d) (edges es d) := by
  intro x y hxy hx
  cases d with
  | put s e v =>
    have h1 : f x = f y := h x y hxy fun e he => hx e (List.mem_append_left _ he)
    have hs : ∀ a, s = some a → (a ≤ x ∨ y < a) := fun a ha => hx a (List.mem_append_right _ (List.mem_append_left _ (by rw [ha]; exact List.mem_singleton_self a)))
    have he : ∀ a, e = some a → (a ≤ x ∨ y < a) := fun a ha => hx a (List.mem_append_right _ (List.mem_append_right _ (by rw [ha]; exact List.mem_singleton_self a)))
    have e1 : inPut s e x = inPut s e y := by
      unfold inPut
      cases s with
      | none =>
        cases e with
        | none => rfl
        | some b =>
          have := he b rfl
          show (true && decide (x < b)) = (true && decide (y < b))
          rw [decide_eq_decide.mpr (by omega : x < b ↔ y < b)]
      | some a =>
        have := hs a rfl
        have e2 : decide (a ≤ x) = decide (a ≤ y) := decide_eq_decide.mpr (by omega)
        cases e with
        | none =>
          show (decide (a ≤ x) && true) = (decide (a ≤ y) && true)
          rw [e2]
        | some b =>
          have := he b rfl
          show (decide (a ≤ x) && decide (x < b)) = (decide (a ≤ y) && decide (y < b))
          rw [e2, decide_eq_decide.mpr (by omega : x < b ↔ y < b)]
    show (if _ then _ else _) = (if _ then _ else _)
    rw [e1, h1]
  | opn p n =>
    have hn : 0 ≤ n := hd
    have hp : p ≤ x ∨ y < p := hx p (List.mem_append_right _ List.mem_cons_self)
    have hq : p + n ≤ x ∨ y < p + n := hx _ (List.mem_append_right _ (List.mem_cons_of_mem _ List.mem_cons_self))
    have hm : ∀ e ∈ es, (if e ≥ p then e + n else e) ≤ x ∨ y < (if e ≥ p then e + n else e) := fun e he => hx _ (List.mem_append_left _ (List.mem_map.mpr ⟨e, he, rfl⟩))
    show (if x < p then f x else if x < p + n then o else f (x - n)) = (if y < p then f y else if y < p + n then o else f (y - n))
    by_cases q : x < p
    · rw [if_pos q, if_pos (by omega : y < p)]
      refine h x y hxy fun e he => ?_
      have := hm e he
      by_cases z : e ≥ p
      · right; omega
      · rw [if_neg z] at this; exact this
    · rw [if_neg q, if_neg (by omega : ¬ y < p)]
      by_cases q2 : x < p + n
      · rw [if_pos q2, if_pos (by omega : y < p + n)]
      · rw [if_neg q2, if_neg (by omega : ¬ y < p + n)]
        refine h _ _ (by omega) fun e he => ?_
        have := hm e he
        by_cases z : e ≥ p
        · rw [if_pos z] at this; omega
        · left; omega
  | cls p n =>
    have hn : 0 ≤ n := hd
    have hp : p ≤ x ∨ y < p := hx p (List.mem_append_right _ List.mem_cons_self)
    have hm : ∀ e ∈ es, max (min e p) (e - n) ≤ x ∨ y < max (min e p) (e - n) := fun e he => hx _ (List.mem_append_left _ (List.mem_map.mpr ⟨e, he, rfl⟩))
    show (if x < p then f x else f (x + n)) = (if y < p then f y else f (y + n))
    by_cases q : x < p
    · rw [if_pos q, if_pos (by omega : y < p)]
      refine h x y hxy fun e he => ?_
      have := hm e he
      omega
    · rw [if_neg q, if_neg (by omega : ¬ y < p)]
      refine h _ _ (by omega) fun e he => ?_
      have := hm e he
      omega
  | str t =>
    have ht : 1 ≤ t := hd
    have hm : ∀ e ∈ es, e * t ≤ x ∨ y < e * t := fun e he => hx _ (List.mem_map.mpr ⟨e, he, rfl⟩)
    show f (x / t) = f (y / t)
    refine h _ _ (Int.ediv_le_ediv (by omega) hxy) fun e he => ?_
    rcases hm e he with z | z
    · left; exact (Int.le_ediv_iff_mul_le (by omega)).mpr z
    · right; exact Int.ediv_lt_of_lt_mul (by omega) z
theorem len_edges {es : List Int} {d : Deed α} : (edges es d).length ≤ es.length + 2 := by
  cases d with
  | put s e v => cases s <;> cases e <;> simp [edges, optL]
  | opn p n => simp [edges]
  | cls p n => simp [edges]
  | str t => simp [edges]
/-- a row of deeds -/
def after (o : α) (ds : List (Deed α)) : Int → α := ds.foldl (fun f d => back o f d) fun _ => o
def edgesAll (ds : List (Deed α)) : List Int := ds.foldl (fun es d => edges es d) []
theorem after_snoc {o : α} {ds : List (Deed α)} {d : Deed α} : after o (ds ++ [d]) = back o (after o ds) d := by
  unfold after
  rw [List.foldl_append] <;> rfl
theorem edgesAll_snoc {ds : List (Deed α)} {d : Deed α} : edgesAll (ds ++ [d]) = edges (edgesAll ds) d := by
  unfold edgesAll
  rw [List.foldl_append] <;> rfl
theorem steps_all {o : α} : ∀ (n : Nat) (ds : List (Deed α)), ds.length = n → (∀ d ∈ ds, d.ok) → Steps (after o ds) (edgesAll ds)
  | 0, ds, hl, _ => by
    rw [List.length_eq_zero_iff.mp hl]
    intro x y _ _
    rfl
  | n + 1, ds, hl, h => by
    have hne : ds ≠ [] := fun z => by rw [z] at hl; cases hl
    rw [← List.dropLast_concat_getLast hne, after_snoc, edgesAll_snoc]
    refine steps_edges (h _ (List.getLast_mem hne)) (steps_all n _ (by rw [List.length_dropLast, hl]; rfl) fun d hd => h d (List.dropLast_subset _ hd))
/-- whether what stands at a place stays -/
def stays : Deed α → Int → Bool
  | .put s e _, x => !inPut s e x
  | .opn _ _, _ => true
  | .cls p n, x => decide (x < p) || decide (x ≥ p + n)
  | .str _, _ => true
theorem back_moved {o : α} {f : Int → α} {d : Deed α} {x : Int} (hd : d.ok) (h : stays d x = true) : back o f d (moved d x) = f x := by
  cases d with
  | put s e v =>
    have h : (!inPut s e x) = true := h
    rw [back_put, if_neg]
    · rfl
    · show ¬ inPut s e x = true
      intro z
      rw [z] at h
      cases h
  | opn p n =>
    have hn : 0 ≤ n := hd
    rw [back_opn, show moved (Deed.opn p n : Deed α) x = (if x ≥ p then x + n else x) from rfl]
    by_cases z : x ≥ p
    · rw [if_pos z, if_neg (by omega), if_neg (by omega), Int.add_sub_cancel]
    · rw [if_neg z, if_pos (by omega)]
  | cls p n =>
    have hn : 0 ≤ n := hd
    have h : (decide (x < p) || decide (x ≥ p + n)) = true := h
    rw [Bool.or_eq_true, decide_eq_true_iff, decide_eq_true_iff] at h
    rw [back_cls, show moved (Deed.cls p n : Deed α) x = (if x ≥ p then max p (x - n) else x) from rfl]
    by_cases z : x ≥ p
    · rw [if_pos z, if_neg (by omega)]
      congr 1
      omega
    · rw [if_neg z, if_pos (by omega)]
  | str t =>
    have ht : 1 ≤ t := hd
    show f (x * t / t) = f x
    rw [Int.mul_ediv_cancel _ (by omega)]
theorem lo_of {f : Int → α} {es : List Int} {first : Int} (h : Steps f es) (hf : ∀ e ∈ es, first < e) (x : Int) (hx : ∀ e ∈ es, x < e) : f x = f first := by
  rcases Int.le_total x first with z | z
  · exact h x first z fun e he => .inr (hf e he)
  · exact (h first x z fun e he => .inr (hx e he)).symm
theorem walkE_len [DecidableEq α] {f : Int → α} : ∀ {es : List Int} {v : α}, (walkE f v es).length ≤ es.length
  | [], _ => Nat.le_refl 0
  | e :: es, v => by
    unfold walkE
    split
    · exact Nat.le_succ_of_le walkE_len
    · exact Nat.succ_le_succ walkE_len
theorem walkE_val [DecidableEq α] {f : Int → α} {P : α → Prop} (h : ∀ x, P (f x)) {es : List Int} {x : Int} : ∀ y ∈ holds (f x) (walkE f (f x) es), P y := all_holds (h x) fun p hp => by
  rw [(walkE_mem hp).2]
  exact h _
/-- a function told at edges as a table -/
theorem table_ge {f : Int → α} : ∀ {es : List Int} {v : α} {b : Int}, es.Pairwise (· < ·) → (∀ e ∈ es, b ≤ e) → f b = v → (∀ x y, b ≤ x → x ≤ y → (∀ e ∈ es, e ≤ x ∨ y < e) → f x = f y) → ∀ x, b ≤ x → at_ v (es.map fun e => (e, f e)) x = f x
  | [], v, b, _, _, hv, hst, x, hx => by
    rw [← hv]
    exact hst b x (Int.le_refl b) hx fun _ h => nomatch h
  | e :: es, v, b, hp, hb, hv, hst, x, hx => by
    obtain ⟨h1, h2⟩ := List.pairwise_cons.mp hp
    have hbe := hb e List.mem_cons_self
    rw [List.map_cons, at_cons]
    by_cases hxe : x < e
    · have q : f b = f x := hst b x (Int.le_refl b) hx fun e' he' => by
        rcases List.mem_cons.mp he' with z | z
        · right; omega
        · right
          have := h1 e' z
          omega
      rw [if_neg (by omega), at_lo, ← hv, q]
      intro p hp'
      obtain ⟨e', he', rfl⟩ := List.mem_map.mp hp'
      have := h1 e' he'
      show x < e'
      omega
    · rw [if_pos (by omega)]
      refine table_ge h2 (fun e' he' => by have := h1 e' he'; omega) rfl (fun x y h3 h4 h5 => hst x y (by omega) h4 fun e' he' => ?_) x (by omega)
      rcases List.mem_cons.mp he' with z | z
      · left; omega
      · exact h5 e' z
theorem at_table {f : Int → α} {es : List Int} {v : α} (hp : es.Pairwise (· < ·)) (hlo : ∀ x, (∀ e ∈ es, x < e) → f x = v) (hst : Steps f es) (x : Int) : at_ v (es.map fun e => (e, f e)) x = f x := by
  obtain ⟨b, h1, h2⟩ := low ((es.map fun e => (e, ()))) x
  have h2 : ∀ e ∈ es, b < e := fun e he => h2 (e, ()) (List.mem_map.mpr ⟨e, he, rfl⟩)
  exact table_ge hp (fun e he => Int.le_of_lt (h2 e he)) (hlo b h2) (fun x y _ h => hst x y h) x h1
theorem srt_table {f : Int → α} {es : List Int} (hp : es.Pairwise (· < ·)) : Srt (es.map fun e => (e, f e)) := List.pairwise_map.mpr (hp.imp fun h => Int.le_of_lt h)
theorem cuts_table {f : Int → α} {es : List Int} : cuts (es.map fun e => (e, f e)) = es := by
  show (es.map _).map _ = es
  rw [List.map_map]
  exact List.map_id es
theorem holds_table {f : Int → α} {es : List Int} {v : α} : holds v (es.map fun e => (e, f e)) = v :: es.map f := by
  show v :: (es.map _).map _ = _
  rw [List.map_map] <;> rfl
theorem back_val {o : α} {f : Int → α} {d : Deed α} {P : α → Prop} (ho : P o) (hf : ∀ x, P (f x)) (hd : ∀ s e v, d = .put s e v → P v) (x : Int) : P (back o f d x) := by
  cases d with
  | put s e v =>
    show P (if _ then _ else _)
    split
    · exact hd s e v rfl
    · exact hf x
  | opn p n =>
    show P (if _ then _ else if _ then _ else _)
    split
    · exact hf x
    · split
      · exact ho
      · exact hf _
  | cls p n =>
    show P (if _ then _ else _)
    split
    · exact hf x
    · exact hf _
  | str t => exact hf _
end
end Cut
/-! runs, rooms, where lines part: plain data -/
namespace Cut
section
variable {α : Type} {f g : Int → α}
/-- runs from s to t, the last ahead -/
def Rv (f : Int → α) (s : Int) : Int → List (Int × Int × α) → Prop
  | t, [] => t = s
  | t, (a, b, v) :: r => b = t ∧ a < b ∧ (∀ x, a ≤ x → x < b → f x = v) ∧ Rv f s a r ∧ ∀ q r', r = q :: r' → q.2.2 ≠ v
theorem rv_ge {s : Int} : ∀ {t : Int} {r : List (Int × Int × α)}, Rv f s t r → s ≤ t
  | t, [], h => by
    have h : t = s := h
    omega
  | t, (a, b, v) :: r, ⟨h1, h2, _, h4, _⟩ => by
    have := rv_ge h4
    omega
theorem rv_last {s t : Int} {q : Int × Int × α} {r : List (Int × Int × α)} (h : Rv f s t (q :: r)) : s < t ∧ f (t - 1) = q.2.2 := by
  obtain ⟨a, b, v⟩ := q
  obtain ⟨h1, h2, h3, h4, _⟩ := h
  have := rv_ge h4
  exact ⟨by omega, h3 (t - 1) (by omega) (by omega)⟩
theorem rv_lt {s a a' t : Int} {v : α} {r r' : List (Int × Int × α)} (h1 : ∀ x, a ≤ x → x < t → f x = v) (h2 : Rv f s a r) (h3 : Rv f s a' r') (h4 : ∀ q r'', r' = q :: r'' → q.2.2 ≠ v) (ha : a' < t) : a' ≤ a := by
  rcases Int.lt_or_le a a' with z | z
  · cases r' with
    | nil =>
      have h3 : a' = s := h3
      have := rv_ge h2
      omega
    | cons q r'' =>
      obtain ⟨_, e⟩ := rv_last h3
      exact absurd (e.symm.trans (h1 (a' - 1) (by omega) (by omega))) (h4 q r'' rfl)
  · exact z
theorem rv_uniq {s : Int} : ∀ {t : Int} {r r' : List (Int × Int × α)}, Rv f s t r → Rv f s t r' → r = r'
  | _, [], [], _, _ => rfl
  | t, [], q :: r', h, h' => by
    have h : t = s := h
    have := (rv_last h').1
    omega
  | t, q :: r, [], h, h' => by
    have h' : t = s := h'
    have := (rv_last h).1
    omega
  | t, (a, b, v) :: r, (a', b', v') :: r', h, h' => by
    have e1 := (rv_last h).2
    have e2 := (rv_last h').2
    have ev : v = v' := e1.symm.trans e2
    obtain ⟨h1, h2, h3, h4, h5⟩ := h
    obtain ⟨h1', h2', h3', h4', h5'⟩ := h'
    subst h1; subst h1'; subst ev
    have := rv_lt h3 h4 h4' h5' h2'
    have := rv_lt h3' h4' h4 h5 h2
    have ea : a = a' := by omega
    subst ea
    rw [rv_uniq h4 h4']
theorem rv_snoc {s t u : Int} {r : List (Int × Int × α)} (h : Rv f s t r) (h1 : t < u) (h2 : ∀ x, t ≤ x → x < u → f x = f t) (h3 : r ≠ [] → f t ≠ f (t - 1)) : Rv f s u ((t, u, f t) :: r) :=
  ⟨rfl, h1, h2, h, fun q r' e => by
    subst e
    rw [← (rv_last h).2]
    exact fun z => h3 (List.cons_ne_nil _ _) z.symm⟩
theorem rv_grow {s t u : Int} {a b : Int} {v : α} {r : List (Int × Int × α)} (h : Rv f s t ((a, b, v) :: r)) (h1 : t < u) (h2 : ∀ x, t ≤ x → x < u → f x = v) : Rv f s u ((a, u, v) :: r) := by
  obtain ⟨e, h3, h4, h5, h6⟩ := h
  exact ⟨rfl, by omega, fun x hx hu => by
    rcases Int.lt_or_le x b with z | z
    · exact h4 x hx z
    · exact h2 x (by omega) hu, h5, h6⟩
theorem rv_else {s t u : Int} {q : Int × Int × α} {r : List (Int × Int × α)} (h : Rv f s t (q :: r)) (h1 : t < u) (h2 : ∀ x, t ≤ x → x < u → f x = f t) (h3 : q.2.2 ≠ f t) : Rv f s u ((t, u, f t) :: q :: r) :=
  rv_snoc h h1 h2 fun _ => by
    rw [(rv_last h).2]
    exact h3.symm
theorem rv_nil {s : Int} : Rv f s s ([] : List (Int × Int × α)) := rfl
theorem rv_one {s u : Int} (h1 : s < u) (h2 : ∀ x, s ≤ x → x < u → f x = f s) : Rv f s u [(s, u, f s)] := rv_snoc rv_nil h1 h2 fun h => absurd rfl h
theorem rv_val {s : Int} : ∀ {t : Int} {r : List (Int × Int × α)}, Rv f s t r → ∀ q ∈ r, ∃ x, f x = q.2.2
  | _, (a, b, v) :: r, ⟨_, h2, h3, h4, _⟩, q, hq => by
    rcases List.mem_cons.mp hq with z | z
    · rw [z]; exact ⟨a, h3 a (Int.le_refl a) h2⟩
    · exact rv_val h4 q z
/-- the first place from which on n places hold v -/
abbrev RoomAt (f : Int → α) (v : α) (n x : Int) : Prop := ∀ y, x ≤ y → y < x + n → f y = v
def IsRoom (f : Int → α) (v : α) (p n : Int) : Option Int → Prop
  | some x => p ≤ x ∧ RoomAt f v n x ∧ ∀ z, p ≤ z → z < x → ¬ RoomAt f v n z
  | none => ∀ z, p ≤ z → ¬ RoomAt f v n z
theorem room_uniq {v : α} {p n : Int} : ∀ {r r' : Option Int}, IsRoom f v p n r → IsRoom f v p n r' → r = r'
  | none, none, _, _ => rfl
  | some x, none, ⟨h1, h2, _⟩, h' => absurd h2 (h' x h1)
  | none, some x, h', ⟨h1, h2, _⟩ => absurd h2 (h' x h1)
  | some x, some y, ⟨h1, h2, h3⟩, ⟨h1', h2', h3'⟩ => by
    rcases Int.lt_trichotomy x y with z | z | z
    · exact absurd h2 (h3' x h1 z)
    · rw [z]
    · exact absurd h2' (h3 y h1' z)
/-- the first place at which two lines part -/
def IsPart (f g : Int → α) (p : Int) : Option Int → Prop
  | some x => p ≤ x ∧ f x ≠ g x ∧ ∀ z, p ≤ z → z < x → f z = g z
  | none => ∀ z, p ≤ z → f z = g z
theorem part_uniq {p : Int} : ∀ {r r' : Option Int}, IsPart f g p r → IsPart f g p r' → r = r'
  | none, none, _, _ => rfl
  | some x, none, ⟨h1, h2, _⟩, h' => absurd (h' x h1) h2
  | none, some x, h', ⟨h1, h2, _⟩ => absurd (h' x h1) h2
  | some x, some y, ⟨h1, h2, h3⟩, ⟨h1', h2', h3'⟩ => by
    rcases Int.lt_trichotomy x y with z | z | z
    · exact absurd (h3' x h1 z) h2
    · rw [z]
    · exact absurd (h3 y h1' z) h2'
theorem part_symm {p : Int} : ∀ {r : Option Int}, IsPart f g p r → IsPart g f p r
  | none, h => fun z hz => (h z hz).symm
  | some x, ⟨h1, h2, h3⟩ => ⟨h1, fun e => h2 e.symm, fun z hz hx => (h3 z hz hx).symm⟩
abbrev StepsGe (f : Int → α) (x : Int) (es : List Int) : Prop := ∀ a b, x ≤ a → a ≤ b → (∀ e ∈ es, e ≤ a ∨ b < e) → f a = f b
def PartInv (f g : Int → α) (x : Int) (es : List Int) (i : Nat) : Prop := ∀ z, x ≤ z → (∀ c ∈ es.drop i, z < c) → f z = g z
theorem part_init {x : Int} {es : List Int} (hf : StepsGe f x es) (hg : StepsGe g x es) (hx : ∀ e ∈ es, x ≤ e) (h : f x = g x) : PartInv f g x es 0 := fun z hz hc => by
  have h1 := hf x z (Int.le_refl x) hz fun e he => .inr (hc e he)
  have h2 := hg x z (Int.le_refl x) hz fun e he => .inr (hc e he)
  rw [← h1, ← h2, h]
theorem part_step {x c : Int} {es : List Int} {i : Nat} (hs : es.Pairwise (· ≤ ·)) (hf : StepsGe f x es) (hg : StepsGe g x es) (hx : ∀ e ∈ es, x ≤ e) (hc : es[i]? = some c) (h : f c = g c) (P : PartInv f g x es i) : PartInv f g x es (i + 1) := fun z hz hd => by
  obtain ⟨hi, e⟩ := List.getElem?_eq_some_iff.mp hc
  rcases Int.lt_or_le z c with y | y
  · refine P z hz fun d hd' => ?_
    rw [List.drop_eq_getElem_cons hi, e] at hd'
    rcases List.mem_cons.mp hd' with y2 | y2
    · omega
    · exact hd d y2
  · have hcm := List.mem_of_getElem? hc
    have hall : ∀ d ∈ es, d ≤ c ∨ z < d := fun d hdm => by
      obtain ⟨j, hj, ej⟩ := List.getElem_of_mem hdm
      rcases Nat.lt_or_ge i j with y2 | y2
      · right
        refine hd d ?_
        rw [← ej]
        refine List.mem_iff_getElem.mpr ⟨j - (i + 1), by rw [List.length_drop]; omega, ?_⟩
        rw [List.getElem_drop]
        congr 1
        omega
      · left
        rcases Nat.lt_or_ge j i with y3 | y3
        · have := List.pairwise_iff_getElem.mp hs j i hj hi y3
          omega
        · have : j = i := by omega
          subst this
          omega
    rw [← hf c z (hx c hcm) y hall, ← hg c z (hx c hcm) y hall, h]
theorem part_found {x c : Int} {es : List Int} {i : Nat} (hs : es.Pairwise (· ≤ ·)) (hx : ∀ e ∈ es, x ≤ e) (hc : es[i]? = some c) (h : f c ≠ g c) (P : PartInv f g x es i) : IsPart f g x (some c) := by
  obtain ⟨hi, e⟩ := List.getElem?_eq_some_iff.mp hc
  refine ⟨hx c (List.mem_of_getElem? hc), h, fun z hz hzc => P z hz fun d hd => ?_⟩
  obtain ⟨j, hj, ej⟩ := List.getElem_of_mem hd
  rw [List.getElem_drop] at ej
  rw [List.length_drop] at hj
  rcases Nat.eq_zero_or_pos j with y | y
  · subst y
    have : es[i + 0] = c := e
    omega
  · have := List.pairwise_iff_getElem.mp hs i (i + j) hi (by omega) (by omega)
    omega
theorem part_end {x : Int} {es : List Int} (P : PartInv f g x es es.length) : IsPart f g x none := fun z hz => P z hz fun c hc => by
  rw [List.drop_length] at hc
  cases hc
theorem stepsGe_hi {v : α} {ps : List (Int × α)} {x : Int} {es : List Int} (h : ∀ c ∈ cuts (hi x ps), c ∈ es) : StepsGe (at_ v ps) x es := fun a b hx hab he => at_steps hab fun p hp => by
  by_cases z : p.1 ≤ a
  · exact .inl z
  · have hm : p.1 ∈ cuts (hi x ps) := List.mem_map.mpr ⟨p, List.mem_filter.mpr ⟨hp, decide_eq_true (by omega)⟩, rfl⟩
    exact he _ (h _ hm)
/-! rooms, walked over edges -/
def RoomInv (f : Int → α) (u : α) (x n : Int) (ds : List Int) (k : Nat) : Option Int → Prop
  | none => ∀ z, x ≤ z → (∀ c ∈ ds.drop k, z < c) → ¬ RoomAt f u n z
  | some s => x ≤ s ∧ (∀ z, x ≤ z → z < s → ¬ RoomAt f u n z) ∧ (∀ z, s ≤ z → (∀ c ∈ ds.drop k, z < c) → f z = u) ∧ ∃ t, ds[k]? = some t ∧ s < t ∧ t - s < n
def RoomMid (f : Int → α) (u : α) (x n : Int) (ds : List Int) (k : Nat) (t : Int) : Option Int → Prop
  | none => ∀ z, x ≤ z → (∀ c ∈ ds.drop (k + 1), z < c) → ¬ RoomAt f u n z
  | some s => x ≤ s ∧ (∀ z, x ≤ z → z < s → ¬ RoomAt f u n z) ∧ (∀ z, s ≤ z → (∀ c ∈ ds.drop (k + 1), z < c) → f z = u) ∧ s ≤ t
theorem drop_lt {ds : List Int} {k : Nat} {t z : Int} (hs : ds.Pairwise (· ≤ ·)) (ht : ds[k]? = some t) (hz : z < t) : ∀ c ∈ ds.drop k, z < c := fun c hc => by
  obtain ⟨hk, e⟩ := List.getElem?_eq_some_iff.mp ht
  obtain ⟨j, hj, ej⟩ := List.getElem_of_mem hc
  rw [List.getElem_drop] at ej
  rw [List.length_drop] at hj
  rcases Nat.eq_zero_or_pos j with y | y
  · subst y
    have : ds[k + 0] = t := e
    omega
  · have := List.pairwise_iff_getElem.mp hs k (k + j) hk (by omega) (by omega)
    omega
theorem step_at' {ds : List Int} {k : Nat} {x t z : Int} (hs : ds.Pairwise (· ≤ ·)) (hf : StepsGe f x ds) (hx : ∀ e ∈ ds, x ≤ e) (ht : ds[k]? = some t) (hz : t ≤ z) (hd : ∀ c ∈ ds.drop (k + 1), z < c) : f z = f t := by
  obtain ⟨hk, e⟩ := List.getElem?_eq_some_iff.mp ht
  refine (hf t z (hx t (List.mem_of_getElem? ht)) hz fun d hdm => ?_).symm
  obtain ⟨j, hj, ej⟩ := List.getElem_of_mem hdm
  rcases Nat.lt_or_ge k j with y2 | y2
  · right
    refine hd d ?_
    rw [← ej]
    refine List.mem_iff_getElem.mpr ⟨j - (k + 1), by rw [List.length_drop]; omega, ?_⟩
    rw [List.getElem_drop]
    congr 1
    omega
  · left
    rcases Nat.lt_or_ge j k with y3 | y3
    · have := List.pairwise_iff_getElem.mp hs j k hj hk y3
      omega
    · have : j = k := by omega
      subst this
      omega
theorem room_bad {u : α} {x n t : Int} {ds : List Int} {k : Nat} {since : Option Int} (hn : 1 ≤ n) (hs : ds.Pairwise (· ≤ ·)) (hf : StepsGe f x ds) (hx : ∀ e ∈ ds, x ≤ e) (ht : ds[k]? = some t) (h : f t ≠ u) (I : RoomInv f u x n ds k since) : RoomMid f u x n ds k t none := fun z hz hd hr => by
  rcases Int.lt_or_le z t with y | y
  · cases since with
    | none => exact I z hz (drop_lt hs ht y) hr
    | some s =>
      obtain ⟨h1, h2, h3, t', h4, h5, h6⟩ := I
      rw [ht] at h4
      cases Option.some.inj h4
      rcases Int.lt_or_le z s with y2 | y2
      · exact h2 z hz y2 hr
      · exact h (hr t (by omega) (by omega))
  · exact h ((step_at' hs hf hx ht y hd).symm.trans (hr z (Int.le_refl z) (by omega)))
theorem room_new {u : α} {x n t : Int} {ds : List Int} {k : Nat} (hs : ds.Pairwise (· ≤ ·)) (hf : StepsGe f x ds) (hx : ∀ e ∈ ds, x ≤ e) (ht : ds[k]? = some t) (h : f t = u) (I : RoomInv f u x n ds k none) : RoomMid f u x n ds k t (some t) :=
  ⟨hx t (List.mem_of_getElem? ht), fun z hz hzt => I z hz (drop_lt hs ht hzt), fun z hz hd => (step_at' hs hf hx ht hz hd).trans h, Int.le_refl t⟩
theorem room_go {u : α} {x n t s : Int} {ds : List Int} {k : Nat} (hs : ds.Pairwise (· ≤ ·)) (hf : StepsGe f x ds) (hx : ∀ e ∈ ds, x ≤ e) (ht : ds[k]? = some t) (h : f t = u) (I : RoomInv f u x n ds k (some s)) : RoomMid f u x n ds k t (some s) := by
  obtain ⟨h1, h2, h3, t', h4, h5, h6⟩ := I
  rw [ht] at h4
  cases Option.some.inj h4
  refine ⟨h1, h2, fun z hz hd => ?_, Int.le_of_lt h5⟩
  rcases Int.lt_or_le z t with y | y
  · exact h3 z hz (drop_lt hs ht y)
  · exact (step_at' hs hf hx ht y hd).trans h
theorem room_last {u : α} {x n t s : Int} {ds : List Int} {k : Nat} (hk : k + 1 = ds.length) (M : RoomMid f u x n ds k t (some s)) : IsRoom f u x n (some s) := by
  obtain ⟨h1, h2, h3, _⟩ := M
  refine ⟨h1, fun y hy _ => h3 y hy fun c hc => ?_, h2⟩
  rw [hk, List.drop_length] at hc
  cases hc
theorem room_hit {u : α} {x n t s t' : Int} {ds : List Int} {k : Nat} (hs : ds.Pairwise (· ≤ ·)) (ht : ds[k + 1]? = some t') (hn : t' - s ≥ n) (M : RoomMid f u x n ds k t (some s)) : IsRoom f u x n (some s) := by
  obtain ⟨h1, h2, h3, _⟩ := M
  exact ⟨h1, fun y hy hy2 => h3 y hy (drop_lt hs ht (by omega)), h2⟩
theorem room_next {u : α} {x n t s t' : Int} {ds : List Int} {k : Nat} (hs : ds.Pairwise (· < ·)) (hk : ds[k]? = some t) (ht : ds[k + 1]? = some t') (hn : t' - s < n) (M : RoomMid f u x n ds k t (some s)) : RoomInv f u x n ds (k + 1) (some s) := by
  obtain ⟨h1, h2, h3, h4⟩ := M
  obtain ⟨a1, a2⟩ := List.getElem?_eq_some_iff.mp hk
  obtain ⟨b1, b2⟩ := List.getElem?_eq_some_iff.mp ht
  have := List.pairwise_iff_getElem.mp hs k (k + 1) a1 b1 (by omega)
  exact ⟨h1, h2, h3, t', ht, by omega, hn⟩
theorem room_end {u : α} {x n : Int} {ds : List Int} : ∀ {since : Option Int}, RoomInv f u x n ds ds.length since → IsRoom f u x n none
  | none, I => fun z hz => I z hz fun c hc => by
    rw [List.drop_length] at hc
    cases hc
  | some s, ⟨_, _, _, t, h, _⟩ => by
    rw [List.getElem?_eq_none (Nat.le_refl _)] at h
    cases h
/-- in the one form something changes at each cut -/
theorem nrm_change : ∀ {ps : List (Int × α)} {v : α}, Ris ps → Nrm v ps → ∀ c ∈ cuts ps, at_ v ps c ≠ at_ v ps (c - 1)
  | [], _, _, _, _, hc => nomatch hc
  | (d, h) :: r, v, hr, hn, c, hc => by
    obtain ⟨h1, h2⟩ := List.pairwise_cons.mp hr
    by_cases z : c = d
    · subst z
      rw [at_at hr, at_lo]
      · exact hn.1
      · intro p hp
        rcases List.mem_cons.mp hp with y | y
        · rw [y]; show c - 1 < c; omega
        · have : c < p.1 := h1 p y
          omega
    · have hc : c ∈ cuts r := by
        rcases List.mem_cons.mp hc with y | y
        · exact absurd y z
        · exact y
      have hd : d < c := by
        obtain ⟨p, hp, rfl⟩ := List.mem_map.mp hc
        exact h1 p hp
      rw [at_cons, at_cons, if_pos (by omega), if_pos (by omega)]
      exact nrm_change h2 hn.2 c hc
/-- the first cut behind a place -/
abbrev nextCut (ps : List (Int × α)) (x : Int) : Option Int := (cuts (hi x ps)).head?
theorem next_none {v : α} {ps : List (Int × α)} {x : Int} (h : nextCut ps x = none) {y : Int} (hy : x ≤ y) : at_ v ps y = at_ v ps x :=
  (at_steps hy fun p hp => by
    by_cases z : p.1 ≤ x
    · exact .inl z
    · have : p ∈ hi x ps := List.mem_filter.mpr ⟨hp, decide_eq_true (by omega)⟩
      have e : cuts (hi x ps) = [] := List.head?_eq_none_iff.mp h
      have e2 : hi x ps = [] := List.map_eq_nil_iff.mp e
      rw [e2] at this
      cases this).symm
theorem next_some {v : α} {ps : List (Int × α)} {x c : Int} (hr : Ris ps) (hn : Nrm v ps) (h : nextCut ps x = some c) : x < c ∧ (∀ y, x ≤ y → y < c → at_ v ps y = at_ v ps x) ∧ at_ v ps c ≠ at_ v ps x := by
  obtain ⟨r, e⟩ : ∃ r, cuts (hi x ps) = c :: r := by
    cases q : cuts (hi x ps) with
    | nil => rw [nextCut, q] at h; cases h
    | cons d r =>
      rw [nextCut, q] at h
      exact ⟨r, by rw [Option.some.inj h]⟩
  have hcm : c ∈ cuts (hi x ps) := by rw [e]; exact List.mem_cons_self
  obtain ⟨p, hp, hpc⟩ := List.mem_map.mp hcm
  have hxc : x < c := by rw [← hpc]; exact hi_lt hp
  have hcp : c ∈ cuts ps := List.mem_map.mpr ⟨p, hi_mem hp, hpc⟩
  have hmin : ∀ q ∈ ps, q.1 ≤ x ∨ c ≤ q.1 := fun q hq => by
    by_cases z : q.1 ≤ x
    · exact .inl z
    · have hm : q.1 ∈ cuts (hi x ps) := List.mem_map.mpr ⟨q, List.mem_filter.mpr ⟨hq, decide_eq_true (by omega)⟩, rfl⟩
      have hs : (cuts (hi x ps)).Pairwise (· < ·) := List.pairwise_map.mpr (List.Pairwise.sublist List.filter_sublist hr)
      rw [e] at hm hs
      rcases List.mem_cons.mp hm with y | y
      · right; omega
      · have := (List.pairwise_cons.mp hs).1 _ y
        right; omega
  have hst : ∀ y, x ≤ y → y < c → at_ v ps y = at_ v ps x := fun y h1 h2 => (at_steps h1 fun q hq => by
    have := hmin q hq
    omega).symm
  refine ⟨hxc, hst, ?_⟩
  have := nrm_change hr hn c hcp
  rw [hst (c - 1) (by omega) (by omega)] at this
  exact this
end
end Cut
/-! the promises of the defs -/
namespace Cut
open PySem PySem.Spec PyProof.Rows L2 Wk
/-! ### holds -/
def Word (z : Str) : Prop := 1 ≤ z.length ∧ z.length ≤ 12 ∧ ∀ c ∈ z.cps.toList, 97 ≤ c ∧ c ≤ 122
def HV (v : V) : Prop := v = .non ∨ ∃ z, Word z ∧ v = .str z
theorem HV.scal {v w : V} (h : HV v) (h' : HV w) : scal v w = true := by
  rcases h with rfl | ⟨z, _, rfl⟩ <;> rcases h' with rfl | ⟨y, _, rfl⟩ <;> rfl
abbrev AllHV (v : V) (ps : List (Int × V)) : Prop := ∀ x ∈ holds v ps, HV x
/-- != of two holds, told by b -/
def NeOk (K : PySem.W.Frag) (H : Hp) (x y : V) (b : Bool) : Prop := ∀ H', Same H H' → ∀ Q : VK, Q (.bl (!b)) H' → rNeA K x y H' Q
theorem NeOk.flat {K : PySem.W.Frag} {H : Hp} {x y : V} (h : HV x) (h' : HV y) : NeOk K H x y (decide (x = y)) := fun H' _ Q q => g_neV (h.scal h') q
/-! ### texts -/
abbrev abc : Str := "abcdefghijklmnopqrstuvwxyz"
theorem abc_len : abc.length ≤ 100000 := by decide +kernel
theorem abc_at : ∀ k : Nat, k < 26 → abc.cps.toList[k]? = some (97 + k) := by decide +kernel
theorem letter_at {i : Int} (h0 : 0 ≤ i) (h1 : i < 26) : ∃ c : Nat, atI abc.cps.toList i = some c ∧ 97 ≤ c ∧ c ≤ 122 := by
  obtain ⟨k, rfl⟩ := Int.eq_ofNat_of_zero_le h0
  exact ⟨97 + k, atI_nat (abc_at k (by omega)), by omega, by omega⟩
theorem word1 {c : Nat} (h : 97 ≤ c ∧ c ≤ 122) : Word ⟨#[c]⟩ := ⟨Nat.le_refl 1, by show 1 ≤ 12; decide, fun d hd => by
  have e : d = c := List.mem_singleton.mp hd
  rw [e]
  exact h⟩
theorem joinL_rep (x : Nat) : ∀ n : Nat, TL.joinL [] (List.replicate (n + 1) [x]) = List.replicate (n + 1) x
  | 0 => rfl
  | n + 1 => by
    show [x] ++ ([] ++ TL.joinL [] (List.replicate (n + 1) [x])) = x :: List.replicate (n + 1) x
    rw [joinL_rep x n]
    rfl
theorem tl_joinrep (x n : Nat) : TL.tl (Txt.join "" (List.replicate (n + 1) ⟨#[x]⟩)) = List.replicate (n + 1) x := by
  rw [TL.join_eq, TL.tl_join, List.map_replicate]
  exact joinL_rep x n
theorem len_tl (z : Str) : z.length = (TL.tl z).length := (Array.length_toList).symm
theorem len_app (a b : Str) : (a ++ b).length = a.length + b.length := Array.size_append
theorem word_join {x n : Nat} (h1 : 1 ≤ n) (h2 : n ≤ 12) (hx : 97 ≤ x ∧ x ≤ 122) : (Txt.join "" (List.replicate n ⟨#[x]⟩)).length = n ∧ Word (Txt.join "" (List.replicate n ⟨#[x]⟩) ++ "") := by
  obtain ⟨m, rfl⟩ : ∃ m, n = m + 1 := ⟨n - 1, by omega⟩
  have e := tl_joinrep x m
  have hl : (Txt.join "" (List.replicate (m + 1) ⟨#[x]⟩)).length = m + 1 := by rw [len_tl, e, List.length_replicate]
  have e0 : ("" : Str).length = 0 := by decide +kernel
  refine ⟨hl, by rw [len_app, hl, e0]; omega, by rw [len_app, hl, e0]; omega, fun c hc => ?_⟩
  have hc : c ∈ TL.tl (Txt.join "" (List.replicate (m + 1) ⟨#[x]⟩) ++ "") := hc
  rw [TL.tl_append, e] at hc
  have et : TL.tl ("" : Str) = [] := by decide +kernel
  rw [et, List.append_nil] at hc
  rw [(List.mem_replicate.mp hc).2]
  exact hx
theorem rep_sum (y : Str) : ∀ n : Nat, ((List.replicate n y).map (·.length)).sum = n * y.length
  | 0 => by simp
  | n + 1 => by
    rw [List.replicate_succ, List.map_cons, List.sum_cons, rep_sum y n, Nat.succ_mul]
    omega
theorem map_range_const {α : Type} (n : Nat) (a : α) : (List.range n).map (fun _ => a) = List.replicate n a := by
  refine List.ext_getElem (by simp) fun i h1 h2 => by simp
/-! ### lists -/
theorem cut1 (xs : List V) : cutV xs (some 1) none = xs.drop 1 := by
  unfold cutV
  rw [show HT.sIx xs.length 0 (some 1) = min 1 xs.length from HT.sIx_nat xs.length 0 1, HT.sIx_none]
  cases xs with
  | nil => rfl
  | cons x r =>
    rw [show min 1 (x :: r).length = 1 by rw [List.length_cons]; omega]
    show (List.take ((x :: r).length - 1) r) = r
    rw [List.length_cons, Nat.add_sub_cancel]
    exact List.take_length
theorem step_at {i : Int} (h0 : 0 ≤ i) (h1 : i < 6) : ∃ s, atI [V.int 0, .int 1, .int 1, .int 2, .int 5, .int (10 ^ (25 : Int).toNat)] i = some (.int s) ∧ 0 ≤ s ∧ s ≤ 10 ^ 25 := by
  have h : i = 0 ∨ i = 1 ∨ i = 2 ∨ i = 3 ∨ i = 4 ∨ i = 5 := by omega
  rcases h with rfl | rfl | rfl | rfl | rfl | rfl
  · exact ⟨0, rfl, by decide, by decide⟩
  · exact ⟨1, rfl, by decide, by decide⟩
  · exact ⟨1, rfl, by decide, by decide⟩
  · exact ⟨2, rfl, by decide, by decide⟩
  · exact ⟨5, rfl, by decide, by decide⟩
  · exact ⟨10 ^ (25 : Int).toNat, rfl, by decide, by decide⟩
theorem nm_at {n1 n2 n3 n4 : V} {i : Int} (h0 : 0 ≤ i) (h1 : i < 4) (a : HV n1) (b : HV n2) (c : HV n3) (d : HV n4) : ∃ v, atI [n1, n2, n3, n4] i = some v ∧ HV v := by
  have h : i = 0 ∨ i = 1 ∨ i = 2 ∨ i = 3 := by omega
  rcases h with rfl | rfl | rfl | rfl
  · exact ⟨n1, rfl, a⟩
  · exact ⟨n2, rfl, b⟩
  · exact ⟨n3, rfl, c⟩
  · exact ⟨n4, rfl, d⟩
theorem int_at {ns : List Int} {i : Nat} {x : V} (h : (ns.map V.int)[i]? = some x) : ∃ c, ns[i]? = some c ∧ x = .int c := by
  rw [List.getElem?_map] at h
  cases q : ns[i]? with
  | none => rw [q] at h; cases h
  | some e => rw [q] at h; exact ⟨e, rfl, (Option.some.inj h).symm⟩
/-! ### the pair of lists that tells a line -/
def ToldAt (H : Hp) (t lc lh : Addr) (v : V) (ps : List (Int × V)) : Prop :=
  H t = some (.tup [.ref lc, .ref lh]) ∧ H lc = some (.lst ((cuts ps).map V.int)) ∧ H lh = some (.lst (holds v ps))
theorem ToldAt.same {H H' : Hp} {t lc lh : Addr} {v : V} {ps : List (Int × V)} (s : Same H H') (h : ToldAt H t lc lh v ps) : ToldAt H' t lc lh v ps := ⟨s _ _ h.1, s _ _ h.2.1, s _ _ h.2.2⟩
/-- a line whose lists are new since H -/
def LineNew (C : Addr) (H H' : Hp) (p : Addr) (cs : List Int) (hs : List V) : Prop :=
  ∃ dx lc lh, H lc = none ∧ H lh = none ∧ H' p = some (.ins C dx (lineFs lc lh)) ∧ H' lc = some (.lst (cs.map V.int)) ∧ H' lh = some (.lst hs)
theorem LineNew.at {C : Addr} {H H' : Hp} {p : Addr} {cs : List Int} {hs : List V} (h : LineNew C H H' p cs hs) : LineAt C H' p cs hs := by
  obtain ⟨dx, lc, lh, _, _, a, b, c⟩ := h
  exact ⟨dx, lc, lh, a, b, c⟩
/-! ### the program -/
section
variable (K : PySem.W.Frag) (C : Addr)
def sp_Line_init : Sp := fun vs H Q _ => ∃ (p dx lc lh : Addr), vs = [.ref p, .ref lc, .ref lh] ∧ H p = some (.ins C dx []) ∧ Q .non (upd H p (.ins C dx (lineFs lc lh)))
def sp_line_of : Sp := fun vs H Q _ => ∃ (a b : Addr) (v : V) (ps : List (Int × V)) (eq : V → V → Bool), vs = [.ref a, .ref b] ∧ SqL K H a ((cuts ps).map V.int) ∧ SqL K H b (holds v ps) ∧ ps.length ≤ 1000 ∧ (∀ x ∈ holds v ps, ∀ y ∈ holds v ps, NeOk K H x y (eq x y)) ∧
  ∀ (H' : Hp) (p : Addr), H p = none → Same H H' → LineNew C H H' p (cuts (keepB eq v ps)) (holds v (keepB eq v ps)) → Q (.ref p) H'
def sp_empty_line : Sp := fun vs H Q _ => vs = [] ∧ ∀ (H' : Hp) (p : Addr), H p = none → Same H H' → LineAt C H' p [] [.non] → Q (.ref p) H'
def sp_value_at : Sp := fun vs H Q _ => ∃ (p : Addr) (v : V) (ps : List (Int × V)) (x : Int), vs = [.ref p, .int x] ∧ LineAt C H p (cuts ps) (holds v ps) ∧ Srt ps ∧ ∀ H', Same H H' → Q (at_ v ps x) H'
theorem g_Line {E : XK} {Q : VK} {H : Hp} {p1 p2 : Addr} {cs : List Int} {hs : List V} (e1 : H p1 = some (.lst (cs.map V.int))) (e2 : H p2 = some (.lst hs))
    (k : ∀ (H' : Hp) (p dx : Addr), H p = none → Same H H' → H' p = some (.ins C dx (lineFs p1 p2)) → Q (.ref p) H') : kMake C (sp_Line_init C) E Q [.ref p1, .ref p2] H := fun x dx nx ndx ne => by
  refine ⟨x, dx, p1, p2, rfl, upd_same, rfl, ?_⟩
  rw [upd_upd]
  have s : Same H (upd (upd H dx (.own x)) x (.ins C dx (lineFs p1 p2))) := fun b o e => by
    rw [upd_ne (ne_of_none e nx), upd_ne (ne_of_none e ndx)]
    exact e
  exact k _ x dx nx s upd_same
/-! ### the laws' helpers -/
def sp_law_cell_at : Sp := fun vs H Q _ => ∃ (a : Addr) (ns : List Int) (k : Nat), vs = [.ref a, .int k] ∧ SqL K H a (ns.map V.int) ∧ Q (.int (ns.getD k 0)) H
def sp_law_names : Sp := fun vs H Q _ => ∃ c : Int, vs = [.int c] ∧ ∀ (H' : Hp) (p : Addr) (a b d : Str), H p = none → Same H H' → Word a → Word b → Word d → H' p = some (.lst [.non, .str a, .str b, .str d]) → Q (.ref p) H'
def sp_law_whole : Sp := fun vs H Q _ => ∃ i : Int, vs = [.int i] ∧ Q (.bl true) H
def sp_law_held : Sp := fun vs H Q _ => ∃ v : V, vs = [v, v] ∧ HV v ∧ Q (.bl true) H
def sp_law_line : Sp := fun vs H Q _ => ∃ (p t lc lh : Addr) (v : V) (ps : List (Int × V)), vs = [.ref p, .ref t] ∧ LineAt C H p (cuts ps) (holds v ps) ∧ ToldAt H t lc lh v ps ∧ AllHV v ps ∧ ps.length ≤ 1000 ∧ ∀ H', Same H H' → Q (.bl true) H'
/-- what is told of cells: cuts that don't fall, from -20 to 20 on, steps to 10^25 -/
structure Told (n : Nat) (v : V) (ps : List (Int × V)) : Prop where
  len : ps.length ≤ n
  srt : Srt ps
  hv : AllHV v ps
  lo : ∀ p ∈ ps, -20 ≤ p.1
  hi : ∀ p ∈ ps, p.1 ≤ 20 + 10 ^ 25 * (n : Int)
def sp_law_told : Sp := fun vs H Q _ => ∃ (a b : Addr) (ns : List Int) (n1 n2 n3 n4 : V), vs = [.ref a, .ref b] ∧ SqL K H a (ns.map V.int) ∧ SqL K H b [n1, n2, n3, n4] ∧ HV n1 ∧ HV n2 ∧ HV n3 ∧ HV n4 ∧ ns.length ≤ 1000 ∧
  ∀ (H' : Hp) (t lc lh : Addr) (v : V) (ps : List (Int × V)), H t = none → H lc = none → H lh = none → lc ≠ lh → Same H H' → ToldAt H' t lc lh v ps → Told (ns.length - 1) v ps → Q (.ref t) H'
def sp_law_at : Sp := fun vs H Q _ => ∃ (t lc lh : Addr) (v : V) (ps : List (Int × V)) (x : Int), vs = [.ref t, .int x] ∧ ToldAt H t lc lh v ps ∧ ps.length ≤ 1000 ∧ ∀ H', Same H H' → Q (at_ v ps x) H'
def sp_law_form : Sp := fun vs H Q _ => ∃ (t lc lh : Addr) (v : V) (ps : List (Int × V)), vs = [.ref t] ∧ ToldAt H t lc lh v ps ∧ AllHV v ps ∧ Srt ps ∧ ps.length ≤ 1000 ∧
  ∀ (H' : Hp) (u mc mh : Addr), H u = none → H mc = none → H mh = none → mc ≠ mh → Same H H' → ToldAt H' u mc mh v (keep v ps) → Q (.ref u) H'
/-- same(one, other) of two lines told -/
def sp_same : Sp := fun vs H Q _ => ∃ (p q : Addr) (v u : V) (ps qs : List (Int × V)), vs = [.ref p, .ref q] ∧ LineAt C H p (cuts ps) (holds v ps) ∧ LineAt C H q (cuts qs) (holds u qs) ∧ AllHV v ps ∧ AllHV u qs ∧
  ∀ H', Same H H' → Q (.bl (decide (cuts ps = cuts qs ∧ holds v ps = holds u qs))) H'
end
/-! ### deep == of lists of ints, of holds -/
def dV : V → PyData
  | .int i => .int i
  | .str z => .str z
  | .bl b => .bool b
  | _ => .none
theorem HV.dp {K : PySem.W.Frag} {H : Hp} {v : V} (h : HV v) : Dp K H v (dV v) := by
  rcases h with rfl | ⟨z, _, rfl⟩
  · exact .non
  · exact .str z
theorem dpa_ints {K : PySem.W.Frag} {H : Hp} : ∀ ns : List Int, DpAll K H (ns.map V.int) (ns.map PyData.int)
  | [] => .nil
  | n :: r => .cons (.int n) (dpa_ints r)
theorem dpa_hvs {K : PySem.W.Frag} {H : Hp} : ∀ {vs : List V}, (∀ v ∈ vs, HV v) → DpAll K H vs (vs.map dV)
  | [], _ => .nil
  | v :: r, h => .cons (h v List.mem_cons_self).dp (dpa_hvs fun w hw => h w (List.mem_cons_of_mem _ hw))
/-- data that == takes: no deeper than n -/
def Sh (d : PyData) (n : Nat) : Prop := d.canLay0 = true ∧ d.depth ≤ n
def ShA (ds : List PyData) (n : Nat) : Prop := PyData.canLayAll0 ds = true ∧ PyData.depthAll ds ≤ n
theorem Sh.ok {d : PyData} {n : Nat} (h : Sh d n) (hn : n ≤ 64) : SeqAt.shaped d = true := by
  unfold SeqAt.shaped
  rw [h.1, decide_eq_true (Nat.le_trans h.2 hn)]
  rfl
theorem sh_int (i : Int) (n : Nat) : Sh (.int i) n := ⟨by simp only [PyData.canLay0], by simp only [PyData.depth]; exact Nat.zero_le _⟩
theorem sh_none (n : Nat) : Sh .none n := ⟨by simp only [PyData.canLay0], by simp only [PyData.depth]; exact Nat.zero_le _⟩
theorem sh_bool (b : Bool) (n : Nat) : Sh (.bool b) n := ⟨by simp only [PyData.canLay0], by simp only [PyData.depth]; exact Nat.zero_le _⟩
theorem word_ok {z : Str} (h : ∀ c ∈ z.cps.toList, 97 ≤ c ∧ c ≤ 122) : PyData.strOk z = true := by
  unfold PyData.strOk
  refine Array.all_eq_true_iff_forall_mem.mpr fun c hc => ?_
  have := h c (Array.mem_toList_iff.mpr hc)
  exact decide_eq_true (by omega)
theorem sh_str {z : Str} (h : PyData.strOk z = true) (n : Nat) : Sh (.str z) n := ⟨by simp only [PyData.canLay0]; exact h, by simp only [PyData.depth]; exact Nat.zero_le _⟩
theorem HV.sh {v : V} (h : HV v) (n : Nat) : Sh (dV v) n := by
  rcases h with rfl | ⟨z, hz, rfl⟩
  · exact sh_none n
  · exact sh_str (word_ok hz.2.2) n
theorem sha_nil (n : Nat) : ShA [] n := ⟨by simp only [PyData.canLayAll0], by simp only [PyData.depthAll]; exact Nat.zero_le _⟩
theorem sha_cons {d : PyData} {ds : List PyData} {n : Nat} (h : Sh d n) (t : ShA ds n) : ShA (d :: ds) n := ⟨by simp only [PyData.canLayAll0]; rw [h.1, t.1]; rfl, by simp only [PyData.depthAll]; exact Nat.max_le.mpr ⟨h.2, t.2⟩⟩
theorem sha_all {n : Nat} : ∀ {ds : List PyData}, (∀ d ∈ ds, Sh d n) → ShA ds n
  | [], _ => sha_nil n
  | d :: ds, h => sha_cons (h d List.mem_cons_self) (sha_all fun e he => h e (List.mem_cons_of_mem _ he))
theorem sh_list {ds : List PyData} {n : Nat} (h : ShA ds n) : Sh (.list ds) (n + 1) := ⟨by simp only [PyData.canLay0]; exact h.1, by simp only [PyData.depth]; exact Nat.succ_le_succ h.2⟩
theorem sh_tup {ds : List PyData} {n : Nat} (h : ShA ds n) : Sh (.tuple ds) (n + 1) := ⟨by simp only [PyData.canLay0]; exact h.1, by simp only [PyData.depth]; exact Nat.succ_le_succ h.2⟩
theorem sha_ints (ns : List Int) (n : Nat) : ShA (ns.map PyData.int) n := sha_all fun d hd => by
  obtain ⟨i, _, rfl⟩ := List.mem_map.mp hd
  exact sh_int i n
theorem sha_hvs {vs : List V} (h : ∀ v ∈ vs, HV v) (n : Nat) : ShA (vs.map dV) n := sha_all fun d hd => by
  obtain ⟨v, hv, rfl⟩ := List.mem_map.mp hd
  exact (h v hv).sh n
/-! what == tells -/
theorem eqv_list (xs ys : List PyData) : PyData.eqv (.list xs) (.list ys) = PyData.eqvAll xs ys := by simp only [PyData.eqv]
theorem eqv_tup (xs ys : List PyData) : PyData.eqv (.tuple xs) (.tuple ys) = PyData.eqvAll xs ys := by simp only [PyData.eqv]
theorem eqva_cons (x y : PyData) (xs ys : List PyData) : PyData.eqvAll (x :: xs) (y :: ys) = (PyData.eqv x y && PyData.eqvAll xs ys) := by simp only [PyData.eqvAll]
theorem eqva_nil : PyData.eqvAll [] [] = true := by simp only [PyData.eqvAll]
theorem dec_and {p q : Prop} [Decidable p] [Decidable q] : (decide p && decide q) = decide (p ∧ q) := by
  by_cases h : p <;> by_cases h' : q <;> simp [h, h']
theorem eqva_ints : ∀ ns ms : List Int, PyData.eqvAll (ns.map PyData.int) (ms.map PyData.int) = decide (ns = ms)
  | [], [] => by simp only [List.map_nil, PyData.eqvAll]; rfl
  | [], m :: ms => by simp only [List.map_nil, List.map_cons, PyData.eqvAll]; rfl
  | n :: ns, [] => by simp only [List.map_nil, List.map_cons, PyData.eqvAll]; rfl
  | n :: ns, m :: ms => by
    rw [List.map_cons, List.map_cons, eqva_cons, eqva_ints ns ms]
    have e : PyData.eqv (.int n) (.int m) = decide (n = m) := by simp only [PyData.eqv]; exact Bool.beq_eq_decide_eq n m
    rw [e, dec_and]
    simp
theorem eqv_hv {v u : V} (h : HV v) (h' : HV u) : PyData.eqv (dV v) (dV u) = decide (v = u) := by
  rcases h with rfl | ⟨z, _, rfl⟩ <;> rcases h' with rfl | ⟨y, _, rfl⟩
  · simp only [dV, PyData.eqv]; rfl
  · simp only [dV, PyData.eqv]; rfl
  · simp only [dV, PyData.eqv]; rfl
  · simp only [dV, PyData.eqv]
    rw [dS]
    exact Bool.beq_eq_decide_eq z y
theorem eqva_hvs : ∀ {vs us : List V}, (∀ v ∈ vs, HV v) → (∀ u ∈ us, HV u) → PyData.eqvAll (vs.map dV) (us.map dV) = decide (vs = us)
  | [], [], _, _ => by simp only [List.map_nil, PyData.eqvAll]; rfl
  | [], m :: ms, _, _ => by simp only [List.map_nil, List.map_cons, PyData.eqvAll]; rfl
  | n :: ns, [], _, _ => by simp only [List.map_nil, List.map_cons, PyData.eqvAll]; rfl
  | n :: ns, m :: ms, h, h' => by
    rw [List.map_cons, List.map_cons, eqva_cons, eqva_hvs (fun w hw => h w (List.mem_cons_of_mem _ hw)) (fun w hw => h' w (List.mem_cons_of_mem _ hw)), eqv_hv (h n List.mem_cons_self) (h' m List.mem_cons_self), dec_and]
    simp
/-- a list of ints, of holds, as data -/
theorem dp_ints {K : PySem.W.Frag} {H : Hp} {a : Addr} {ns : List Int} (h : SqL K H a (ns.map V.int)) : Dp K H (.ref a) (.list (ns.map PyData.int)) := .lst h (dpa_ints ns)
theorem dp_hvs {K : PySem.W.Frag} {H : Hp} {a : Addr} {vs : List V} (h : SqL K H a vs) (hv : ∀ v ∈ vs, HV v) : Dp K H (.ref a) (.list (vs.map dV)) := .lst h (dpa_hvs hv)
theorem sh_lints (ns : List Int) : Sh (.list (ns.map PyData.int)) 1 := sh_list (sha_ints ns 0)
theorem sh_lhvs {vs : List V} (h : ∀ v ∈ vs, HV v) : Sh (.list (vs.map dV)) 1 := sh_list (sha_hvs h 0)
/-- the pair that tells a line, as data -/
abbrev dTold (v : V) (ps : List (Int × V)) : List PyData := [.list ((cuts ps).map PyData.int), .list ((holds v ps).map dV)]
theorem dpa_told {K : PySem.W.Frag} {H : Hp} {lc lh : Addr} {v : V} {ps : List (Int × V)} (h1 : SqL K H lc ((cuts ps).map V.int)) (h2 : SqL K H lh (holds v ps)) (hv : AllHV v ps) : DpAll K H [.ref lc, .ref lh] (dTold v ps) :=
  .cons (dp_ints h1) (.cons (dp_hvs h2 hv) .nil)
theorem sha_told {v : V} {ps : List (Int × V)} (hv : AllHV v ps) : ShA (dTold v ps) 1 := sha_cons (sh_lints _) (sha_cons (sh_lhvs hv) (sha_nil 1))
theorem eqva_told {v u : V} {ps qs : List (Int × V)} (hv : AllHV v ps) (hu : AllHV u qs) : PyData.eqvAll (dTold v ps) (dTold u qs) = decide (cuts ps = cuts qs ∧ holds v ps = holds u qs) := by
  rw [eqva_cons, eqva_cons, eqva_nil, eqv_list, eqv_list, eqva_ints, eqva_hvs hv hu, Bool.and_true, dec_and]
theorem told_eq {α : Type} {v u : α} {ps qs : List (Int × α)} : (cuts ps = cuts qs ∧ holds v ps = holds u qs) ↔ (v = u ∧ ps = qs) := by
  constructor
  · rintro ⟨h1, h2⟩
    have h3 := List.cons.inj h2
    refine ⟨h3.1, ?_⟩
    have hl : ps.length = qs.length := by have := congrArg List.length h1; simpa [cuts] using this
    refine List.ext_getElem hl fun i a b => ?_
    have c1 : (cuts ps)[i]? = (cuts qs)[i]? := by rw [h1]
    have c2 : (ps.map (·.2))[i]? = (qs.map (·.2))[i]? := by rw [h3.2]
    rw [List.getElem?_map, List.getElem?_map, List.getElem?_eq_getElem a, List.getElem?_eq_getElem b] at c1 c2
    exact Prod.ext (Option.some.inj c1) (Option.some.inj c2)
  · rintro ⟨rfl, rfl⟩
    exact ⟨rfl, rfl⟩
theorem AllHV.keep {v : V} {ps : List (Int × V)} (h : AllHV v ps) : AllHV v (keep v ps) := fun x hx => by
  rcases List.mem_cons.mp hx with e | e
  · rw [e]; exact h _ List.mem_cons_self
  · obtain ⟨p, hp, rfl⟩ := List.mem_map.mp e
    exact h _ (List.mem_cons_of_mem _ (List.mem_map.mpr ⟨p, keepB_mem hp, rfl⟩))
theorem AllHV.ne {K : PySem.W.Frag} {H : Hp} {v : V} {ps : List (Int × V)} (h : AllHV v ps) : ∀ x ∈ holds v ps, ∀ y ∈ holds v ps, NeOk K H x y (decide (x = y)) := fun x hx y hy => .flat (h x hx) (h y hy)
/-- one hold changed -/
theorem set_hold {α : Type} {v h : α} {ps : List (Int × α)} {j : Nat} (hj : j < (holds v ps).length) : ∃ v' ps', (holds v ps).set j h = holds v' ps' ∧ cuts ps' = cuts ps ∧ ∀ x ∈ holds v' ps', x = h ∨ x ∈ holds v ps := by
  cases j with
  | zero => exact ⟨h, ps, rfl, rfl, fun x hx => by
      rcases List.mem_cons.mp hx with e | e
      · exact .inl e
      · exact .inr (List.mem_cons_of_mem _ e)⟩
  | succ k =>
    have hk : k < ps.length := by simp [holds] at hj; omega
    have e : (holds v ps).set (k + 1) h = holds v (ps.set k (ps[k].1, h)) := by
      show v :: (ps.map (·.2)).set k h = v :: (ps.set k (ps[k].1, h)).map (·.2)
      rw [List.map_set]
    refine ⟨v, ps.set k (ps[k].1, h), e, ?_, fun x hx => ?_⟩
    · show (ps.set k (ps[k].1, h)).map (·.1) = ps.map (·.1)
      rw [List.map_set]
      show (ps.map (·.1)).set k ps[k].1 = ps.map (·.1)
      have e2 : ps[k].1 = (ps.map (·.1))[k]'(by rw [List.length_map]; exact hk) := by rw [List.getElem_map]
      rw [e2, List.set_getElem_self]
    · rw [← e] at hx
      rcases List.mem_or_eq_of_mem_set hx with z | z
      · exact .inr z
      · exact .inl z
theorem srt_cuts {α β : Type} {ps : List (Int × α)} {qs : List (Int × β)} (e : cuts qs = cuts ps) (h : Srt ps) : Srt qs := by
  have h1 : (cuts ps).Pairwise (· ≤ ·) := List.pairwise_map.mpr h
  rw [← e] at h1
  exact List.pairwise_map.mp h1
theorem len_cuts {α β : Type} {ps : List (Int × α)} {qs : List (Int × β)} (e : cuts qs = cuts ps) : qs.length = ps.length := by
  have := congrArg List.length e
  simpa [cuts] using this
/-- what a law promises -/
def sp_law (K : PySem.W.Frag) : Sp := fun vs H Q _ => ∃ (a : Addr) (ns : List Int), vs = [.ref a] ∧ SqL K H a (ns.map V.int) ∧ ns.length ≤ 63 ∧ ∀ H', Q (.bl true) H'
end Cut
/-! promises of the deeds and their laws' helpers -/
namespace Cut
open PySem PySem.Spec PyProof.Rows L2 Wk
def optV : Option Int → V
  | none => .non
  | some i => .int i
/-- a deed as a tuple -/
def deedT : Deed V → List V
  | .put s e w => [.str "put", optV s, optV e, w]
  | .opn p n => [.str "open", .int p, .int n]
  | .cls p n => [.str "close", .int p, .int n]
  | .str t => [.str "stretch", .int t]
def DOk : Deed V → Prop
  | .put _ _ w => HV w
  | .opn _ n => 0 ≤ n
  | .cls _ n => 0 ≤ n
  | .str t => 1 ≤ t ∧ t ≤ 3
theorem DOk.ok {d : Deed V} (h : DOk d) : d.ok := by
  cases d with
  | put s e w => exact True.intro
  | opn p n => exact h
  | cls p n => exact h
  | str t => exact h.1
theorem w_pp : decide (("put" : Str) = "put") = true := by decide +kernel
theorem w_op : decide (("open" : Str) = "put") = false := by decide +kernel
theorem w_oo : decide (("open" : Str) = "open") = true := by decide +kernel
theorem w_cp : decide (("close" : Str) = "put") = false := by decide +kernel
theorem w_co : decide (("close" : Str) = "open") = false := by decide +kernel
theorem w_cc : decide (("close" : Str) = "close") = true := by decide +kernel
theorem w_sp : decide (("stretch" : Str) = "put") = false := by decide +kernel
theorem w_so : decide (("stretch" : Str) = "open") = false := by decide +kernel
theorem w_sc : decide (("stretch" : Str) = "close") = false := by decide +kernel
theorem w_ss : decide (("stretch" : Str) = "stretch") = true := by decide +kernel
theorem w_po : decide (("put" : Str) = "open") = false := by decide +kernel
theorem w_pc : decide (("put" : Str) = "close") = false := by decide +kernel
theorem w_ps : decide (("put" : Str) = "stretch") = false := by decide +kernel
theorem w_os : decide (("open" : Str) = "stretch") = false := by decide +kernel
theorem w_oc : decide (("open" : Str) = "close") = false := by decide +kernel
theorem w_cs : decide (("close" : Str) = "stretch") = false := by decide +kernel
theorem cutFrom {xs : List V} {k : Int} {n : Nat} (e : k = (n : Int)) : cutV xs (some k) none = xs.drop n := by
  subst e
  unfold cutV
  rw [HT.sIx_nat, HT.sIx_none]
  rcases Nat.le_total n xs.length with h | h
  · rw [Nat.min_eq_left h, List.take_of_length_le (by rw [List.length_drop]; omega)]
  · rw [Nat.min_eq_right h, List.drop_length, List.drop_eq_nil_of_le h, List.take_nil]
theorem cutTo {xs : List V} {k : Int} {n : Nat} (e : k = (n : Int)) : cutV xs none (some k) = xs.take n := by
  subst e
  unfold cutV
  rw [HT.sIx_nat, show HT.sIx xs.length 0 none = 0 from rfl, List.drop_zero, Nat.sub_zero]
  rcases Nat.le_total n xs.length with h | h
  · rw [Nat.min_eq_left h]
  · rw [Nat.min_eq_right h, List.take_length, List.take_of_length_le h]
theorem cutMid {xs : List V} {a b : Nat} : cutV xs (some (a : Int)) (some (b : Int)) = (xs.drop a).take (b - a) := by
  unfold cutV
  rw [HT.sIx_nat, HT.sIx_nat]
  rcases Nat.le_total a xs.length with h | h
  · rw [Nat.min_eq_left h]
    rcases Nat.le_total b xs.length with h2 | h2
    · rw [Nat.min_eq_left h2]
    · rw [Nat.min_eq_right h2, List.take_of_length_le (by rw [List.length_drop]; omega), List.take_of_length_le (by rw [List.length_drop]; omega)]
  · rw [Nat.min_eq_right h, List.drop_length, List.drop_eq_nil_of_le h, List.take_nil, List.take_nil]
/-! what the deeds tell, as lists -/
theorem putPs_cuts {v w : V} {ps : List (Int × V)} {s e : Option Int} : cuts (putPs v ps w s e).2 = (match s with | none => [] | some a => cuts (lo a ps) ++ [a]) ++ (match e with | none => [] | some b => b :: cuts (hi b ps)) := by
  cases s <;> cases e <;> simp [putPs, cuts]
theorem putPs_holds {v w : V} {ps : List (Int × V)} {s e : Option Int} : holds (putPs v ps w s e).1 (putPs v ps w s e).2 = (match s with | none => [w] | some a => holds v (lo a ps) ++ [w]) ++ (match e with | none => [] | some b => at_ v ps b :: (hi b ps).map (·.2)) := by
  cases s <;> cases e <;> simp [putPs, holds]
section
variable (K : PySem.W.Frag) (C : Addr)
def sp_behind : Sp := fun vs H Q _ => ∃ (p : Addr) (v : V) (ps : List (Int × V)) (x : Int), vs = [.ref p, .int x] ∧ LineAt C H p (cuts ps) (holds v ps) ∧ Srt ps ∧ ps.length ≤ 1000 ∧
  ∀ (H' : Hp) (t a b : Addr), H t = none → H a = none → H b = none → Same H H' → H' t = some (.tup [.ref a, .ref b]) → H' a = some (.lst ((cuts (hi x ps)).map V.int)) → H' b = some (.lst ((hi x ps).map (·.2))) → Q (.ref t) H'
def sp_ahead : Sp := fun vs H Q _ => ∃ (p : Addr) (v : V) (ps : List (Int × V)) (x : Int), vs = [.ref p, .int x] ∧ LineAt C H p (cuts ps) (holds v ps) ∧ Srt ps ∧ ps.length ≤ 1000 ∧
  ∀ (H' : Hp) (t a b : Addr), H t = none → H a = none → H b = none → Same H H' → H' t = some (.tup [.ref a, .ref b]) → H' a = some (.lst ((cuts (lo x ps)).map V.int)) → H' b = some (.lst (holds v (lo x ps))) → Q (.ref t) H'
/-- a line stands in its one form -/
structure LineOk (H : Hp) (p : Addr) (v : V) (ps : List (Int × V)) : Prop where
  at' : LineAt C H p (cuts ps) (holds v ps)
  ris : Ris ps
  nrm : Nrm v ps
  hv : AllHV v ps
theorem LineOk.same {C : Addr} {H H' : Hp} {p : Addr} {v : V} {ps : List (Int × V)} (s : Same H H') (h : LineOk C H p v ps) : LineOk C H' p v ps := ⟨h.at'.same s, h.ris, h.nrm, h.hv⟩
def DoneK (H : Hp) (Q : VK) (v : V) (ps : List (Int × V)) (d : Deed V) : Prop := ∀ (H' : Hp) (p' : Addr) (v' : V) (ps' : List (Int × V)), H p' = none → Same H H' → LineOk C H' p' v' ps' → ps'.length ≤ ps.length + 2 → (∀ x, at_ v' ps' x = back .non (at_ v ps) d x) → Q (.ref p') H'
/-- what line_of makes of it -/
theorem done_keep {C : Addr} {H H' : Hp} {p : Addr} {v : V} {ps : List (Int × V)} (hl : LineNew C H H' p (cuts (keep v ps)) (holds v (keep v ps))) (hs : Srt ps) (hv : AllHV v ps) : LineOk C H' p v (keep v ps) :=
  ⟨hl.at, keep_ris hs, keep_nrm ps v, hv.keep⟩
def sp_put : Sp := fun vs H Q _ => ∃ (p : Addr) (v : V) (ps : List (Int × V)) (s e : Option Int) (w : V), vs = [.ref p, optV s, optV e, w] ∧ LineOk C H p v ps ∧ HV w ∧ ps.length ≤ 900 ∧ DoneK C H Q v ps (.put s e w)
def sp_opened : Sp := fun vs H Q _ => ∃ (p : Addr) (v : V) (ps : List (Int × V)) (x n : Int), vs = [.ref p, .int x, .int n] ∧ LineOk C H p v ps ∧ 0 ≤ n ∧ ps.length ≤ 900 ∧ DoneK C H Q v ps (.opn x n)
def sp_closed : Sp := fun vs H Q _ => ∃ (p : Addr) (v : V) (ps : List (Int × V)) (x n : Int), vs = [.ref p, .int x, .int n] ∧ LineOk C H p v ps ∧ 0 ≤ n ∧ ps.length ≤ 900 ∧ DoneK C H Q v ps (.cls x n)
def sp_stretched : Sp := fun vs H Q _ => ∃ (p : Addr) (v : V) (ps : List (Int × V)) (t : Int), vs = [.ref p, .int t] ∧ LineOk C H p v ps ∧ 1 ≤ t ∧ t ≤ 3 ∧ ps.length ≤ 900 ∧ DoneK C H Q v ps (.str t)
def sp_done : Sp := fun vs H Q _ => ∃ (p a : Addr) (v : V) (ps : List (Int × V)) (d : Deed V), vs = [.ref p, .ref a] ∧ LineOk C H p v ps ∧ H a = some (.tup (deedT d)) ∧ DOk d ∧ ps.length ≤ 900 ∧ DoneK C H Q v ps d
def sp_carried : Sp := fun vs H Q _ => ∃ (a : Addr) (d : Deed V) (x : Int), vs = [.int x, .ref a] ∧ H a = some (.tup (deedT d)) ∧ DOk d ∧ ∀ H', Same H H' → Q (.int (moved d x)) H'
/-! the laws' -/
def sp_law_deed : Sp := fun vs H Q _ => ∃ (a : Addr) (i j : Int) (n1 n2 n3 n4 : V), vs = [.int i, .int j, .ref a] ∧ SqL K H a [n1, n2, n3, n4] ∧ HV n1 ∧ HV n2 ∧ HV n3 ∧ HV n4 ∧
  ∀ (H' : Hp) (t : Addr) (d : Deed V), H t = none → Same H H' → H' t = some (.tup (deedT d)) → DOk d → Q (.ref t) H'
def sp_law_edges_behind : Sp := fun vs H Q _ => ∃ (a b : Addr) (es : List Int) (d : Deed V), vs = [.ref a, .ref b] ∧ H a = some (.lst (es.map V.int)) ∧ H b = some (.tup (deedT d)) ∧ DOk d ∧ es.length ≤ 1000 ∧
  ∀ (H' : Hp) (q : Addr), H q = none → Same H H' → H' q = some (.lst ((edges es d).map V.int)) → Q (.ref q) H'
def sp_law_back : Sp := fun vs H Q _ => ∃ (t lc lh b : Addr) (v : V) (ps : List (Int × V)) (d : Deed V) (x : Int), vs = [.ref t, .ref b, .int x] ∧ ToldAt H t lc lh v ps ∧ H b = some (.tup (deedT d)) ∧ DOk d ∧ ps.length ≤ 1000 ∧
  ∀ H', Same H H' → Q (back .non (at_ v ps) d x) H'
def sp_law_image : Sp := fun vs H Q _ => ∃ (t lc lh b : Addr) (v : V) (ps : List (Int × V)) (d : Deed V), vs = [.ref t, .ref b] ∧ ToldAt H t lc lh v ps ∧ AllHV v ps ∧ H b = some (.tup (deedT d)) ∧ DOk d ∧ ps.length ≤ 900 ∧
  ∀ (H' : Hp) (u mc mh : Addr) (v' : V) (ps' : List (Int × V)), H u = none → Same H H' → ToldAt H' u mc mh v' ps' → Ris ps' → Nrm v' ps' → AllHV v' ps' → ps'.length ≤ ps.length + 2 → (∀ x, at_ v' ps' x = back .non (at_ v ps) d x) → Q (.ref u) H'
def sp_law_by_name : Sp := sp_done C
/-- a row of deeds -/
def DeedsAt (H : Hp) (a : Addr) (ds : List (Deed V)) : Prop := ∃ as : List Addr, H a = some (.lst (as.map V.ref)) ∧ as.length = ds.length ∧ ∀ (i : Nat) b d, as[i]? = some b → ds[i]? = some d → H b = some (.tup (deedT d)) ∧ DOk d
theorem DeedsAt.same {H H' : Hp} {a : Addr} {ds : List (Deed V)} (s : Same H H') (h : DeedsAt H a ds) : DeedsAt H' a ds := by
  obtain ⟨as, h1, h2, h3⟩ := h
  exact ⟨as, s _ _ h1, h2, fun i b d e1 e2 => ⟨s _ _ (h3 i b d e1 e2).1, (h3 i b d e1 e2).2⟩⟩
theorem DeedsAt.all {H : Hp} {a : Addr} {ds : List (Deed V)} (h : DeedsAt H a ds) : ∀ d ∈ ds, DOk d := fun d hd => by
  obtain ⟨as, h1, h2, h3⟩ := h
  obtain ⟨i, hi, e⟩ := List.getElem_of_mem hd
  exact (h3 i as[i] d (List.getElem?_eq_getElem (by omega)) (by rw [List.getElem?_eq_getElem hi, e])).2
theorem deeds_of {H : Hp} : ∀ (ys : List V), (∀ y ∈ ys, ∃ b d, y = V.ref b ∧ H b = some (.tup (deedT d)) ∧ DOk d) → ∃ (as : List Addr) (ds : List (Deed V)), ys = as.map V.ref ∧ as.length = ds.length ∧ ∀ (i : Nat) b d, as[i]? = some b → ds[i]? = some d → H b = some (.tup (deedT d)) ∧ DOk d
  | [], _ => ⟨[], [], rfl, rfl, fun i b d h => by simp at h⟩
  | y :: ys, h => by
    obtain ⟨b, d, rfl, h1, h2⟩ := h y List.mem_cons_self
    obtain ⟨as, ds, rfl, h4, h5⟩ := deeds_of ys fun z hz => h z (List.mem_cons_of_mem _ hz)
    refine ⟨b :: as, d :: ds, rfl, by rw [List.length_cons, List.length_cons, h4], fun i c e e1 e2 => ?_⟩
    cases i with
    | zero =>
      cases Option.some.inj e1
      cases Option.some.inj e2
      exact ⟨h1, h2⟩
    | succ i => exact h5 i c e e1 e2
theorem after_hv : ∀ (n : Nat) (ds : List (Deed V)), ds.length = n → (∀ d ∈ ds, DOk d) → ∀ x, HV (after .non ds x)
  | 0, ds, hl, _, x => by
    rw [List.length_eq_zero_iff.mp hl]
    exact .inl rfl
  | n + 1, ds, hl, h, x => by
    have hne : ds ≠ [] := fun z => by rw [z] at hl; cases hl
    rw [← List.dropLast_concat_getLast hne, after_snoc]
    exact back_val (.inl rfl) (after_hv n _ (by rw [List.length_dropLast, hl]; rfl) fun d hd => h d (List.dropLast_subset _ hd)) (fun s e w hw => by
      have := h _ (List.getLast_mem hne)
      rw [hw] at this
      exact this) x
theorem len_edgesAll : ∀ (n : Nat) (ds : List (Deed V)), ds.length = n → (edgesAll ds).length ≤ 2 * n
  | 0, ds, hl => by
    rw [List.length_eq_zero_iff.mp hl]
    exact Nat.le_refl 0
  | n + 1, ds, hl => by
    have hne : ds ≠ [] := fun z => by rw [z] at hl; cases hl
    rw [← List.dropLast_concat_getLast hne, edgesAll_snoc]
    have h1 := len_edgesAll n ds.dropLast (by rw [List.length_dropLast, hl]; rfl)
    have h2 := len_edges (es := edgesAll ds.dropLast) (d := ds.getLast hne)
    omega
def sp_law_deeds : Sp := fun vs H Q _ => ∃ (a b : Addr) (ns : List Int) (n1 n2 n3 n4 : V), vs = [.ref a, .ref b] ∧ SqL K H a (ns.map V.int) ∧ SqL K H b [n1, n2, n3, n4] ∧ HV n1 ∧ HV n2 ∧ HV n3 ∧ HV n4 ∧ ns.length ≤ 1000 ∧
  ∀ (H' : Hp) (q : Addr) (ds : List (Deed V)), H q = none → Same H H' → DeedsAt H' q ds → ds.length = ns.length / 2 → Q (.ref q) H'
def sp_law_value : Sp := fun vs H Q _ => ∃ (a : Addr) (ds : List (Deed V)) (x : Int), vs = [.ref a, .int x] ∧ DeedsAt H a ds ∧ ∀ H', Same H H' → Q (after .non ds x) H'
def sp_law_edges : Sp := fun vs H Q _ => ∃ (a : Addr) (ds : List (Deed V)), vs = [.ref a] ∧ DeedsAt H a ds ∧ ds.length ≤ 400 ∧
  ∀ (H' : Hp) (q : Addr) (es : List Int), H q = none → Same H H' → H' q = some (.lst (es.map V.int)) → es.Pairwise (· < ·) → Steps (after .non ds) es → es.length ≤ 2 * ds.length → Q (.ref q) H'
def sp_law_due : Sp := fun vs H Q _ => ∃ (a : Addr) (ds : List (Deed V)), vs = [.ref a] ∧ DeedsAt H a ds ∧ ds.length ≤ 400 ∧
  ∀ (H' : Hp) (u mc mh : Addr) (v' : V) (ps' : List (Int × V)), H u = none → Same H H' → ToldAt H' u mc mh v' ps' → Ris ps' → Nrm v' ps' → AllHV v' ps' → ps'.length ≤ 2 * ds.length → (∀ x, at_ v' ps' x = after .non ds x) → Q (.ref u) H'
def sp_law_carried : Sp := fun vs H Q _ => ∃ (a : Addr) (d : Deed V) (x : Int), vs = [.ref a, .int x] ∧ H a = some (.tup (deedT d)) ∧ DOk d ∧ ∀ H', Same H H' → Q (.int (moved d x)) H'
def sp_law_stays : Sp := fun vs H Q _ => ∃ (a : Addr) (d : Deed V) (x : Int), vs = [.ref a, .int x] ∧ H a = some (.tup (deedT d)) ∧ DOk d ∧ ∀ H', Same H H' → Q (.bl (stays d x)) H'
end
end Cut
/-! promises of the asks and their laws' helpers -/
namespace Wk
open PySem PySem.Spec PyProof.Rows L2
theorem ixN_last {n : Nat} (h : 0 < n) : ixN n (-1) = some (n - 1) := by
  unfold ixN
  rw [if_neg (by omega), if_pos (by omega)]
  congr 1
  omega
theorem TupsAt.nil {H : Hp} {a : Addr} (h : H a = some (.lst [])) : TupsAt H a [] := ⟨[], h, rfl, fun i b x e => by simp at e⟩
theorem TupsAt.list {H : Hp} {a : Addr} {xs : List (List V)} (h : TupsAt H a xs) : ∃ as : List Addr, H a = some (.lst (as.map V.ref)) ∧ as.length = xs.length := by
  obtain ⟨as, h1, h2, _⟩ := h
  exact ⟨as, h1, h2⟩
theorem TupsAt.push {H' : Hp} {a b : Addr} {as : List Addr} {xs : List (List V)} {x : List V} (h1 : as.length = xs.length) (h2 : ∀ (i : Nat) b x, as[i]? = some b → xs[i]? = some x → H' b = some (.tup x)) (e : H' a = some (.lst (as.map V.ref ++ [V.ref b]))) (hb : H' b = some (.tup x)) : TupsAt H' a (xs ++ [x]) := by
  refine ⟨as ++ [b], by rw [e, List.map_append] <;> rfl, by rw [List.length_append, List.length_append, h1] <;> rfl, fun i c y e1 e2 => ?_⟩
  by_cases hi : i < as.length
  · rw [List.getElem?_append_left hi] at e1
    rw [List.getElem?_append_left (by omega)] at e2
    exact h2 i c y e1 e2
  · have hi2 : i = as.length := by
      have := (List.getElem?_eq_some_iff.mp e1).1
      rw [List.length_append, List.length_singleton] at this
      omega
    subst hi2
    rw [List.getElem?_append_right (Nat.le_refl _), Nat.sub_self] at e1
    rw [List.getElem?_append_right (by omega), h1, Nat.sub_self] at e2
    cases Option.some.inj e1
    cases Option.some.inj e2
    exact hb
theorem TupsAt.snoc {H : Hp} {a : Addr} {xs : List (List V)} {x : List V} (h : TupsAt H a (xs ++ [x])) : ∃ (as : List Addr) (b : Addr), H a = some (.lst (as.map V.ref ++ [V.ref b])) ∧ H b = some (.tup x) ∧ as.length = xs.length ∧ ∀ (i : Nat) c y, as[i]? = some c → xs[i]? = some y → H c = some (.tup y) := by
  obtain ⟨as, h1, h2, h3⟩ := h
  rw [List.length_append, List.length_singleton] at h2
  have hne : as ≠ [] := fun z => by rw [z] at h2; simp at h2
  obtain ⟨as, b, rfl⟩ : ∃ as0 b, as = as0 ++ [b] := ⟨as.dropLast, as.getLast hne, (List.dropLast_concat_getLast hne).symm⟩
  have hl : as.length = xs.length := by rw [List.length_append, List.length_singleton] at h2; omega
  refine ⟨as, b, by rw [h1, List.map_append] <;> rfl, ?_, hl, fun i c y e1 e2 => ?_⟩
  · refine h3 xs.length _ x ?_ (by rw [List.getElem?_append_right (Nat.le_refl _), Nat.sub_self] <;> rfl)
    rw [List.getElem?_append_right (by omega), hl, Nat.sub_self] <;> rfl
  · have hi := (List.getElem?_eq_some_iff.mp e2).1
    refine h3 i c y ?_ ?_
    · rw [List.getElem?_append_left (by omega)]
      exact e1
    · rw [List.getElem?_append_left hi]
      exact e2
end Wk
namespace Cut
open PySem PySem.Spec PyProof.Rows L2 Wk
/-! ### values that == takes -/
def Flat (v : V) : Prop := v = .non ∨ (∃ z, PyData.strOk z = true ∧ v = .str z) ∨ ∃ i, v = .int i
theorem HV.flat {v : V} (h : HV v) : Flat v := by
  rcases h with rfl | ⟨z, hz, rfl⟩
  · exact .inl rfl
  · exact .inr (.inl ⟨z, word_ok hz.2.2, rfl⟩)
theorem Flat.scal {v w : V} (h : Flat v) (h' : Flat w) : scal v w = true := by
  rcases h with rfl | ⟨z, _, rfl⟩ | ⟨i, rfl⟩ <;> rcases h' with rfl | ⟨y, _, rfl⟩ | ⟨j, rfl⟩ <;> rfl
theorem Flat.dp {K : PySem.W.Frag} {H : Hp} {v : V} (h : Flat v) : Dp K H v (dV v) := by
  rcases h with rfl | ⟨z, _, rfl⟩ | ⟨i, rfl⟩
  · exact .non
  · exact .str z
  · exact .int i
theorem Flat.sh {v : V} (h : Flat v) (n : Nat) : Sh (dV v) n := by
  rcases h with rfl | ⟨z, hz, rfl⟩ | ⟨i, rfl⟩
  · exact sh_none n
  · exact sh_str hz n
  · exact sh_int i n
theorem eqv_int (i j : Int) : PyData.eqv (.int i) (.int j) = decide (i = j) := by simp only [PyData.eqv]; exact Bool.beq_eq_decide_eq i j
theorem eqv_flat {v u : V} (h : Flat v) (h' : Flat u) : PyData.eqv (dV v) (dV u) = decide (v = u) := by
  rcases h with rfl | ⟨z, _, rfl⟩ | ⟨i, rfl⟩ <;> rcases h' with rfl | ⟨y, _, rfl⟩ | ⟨j, rfl⟩
  · simp only [dV, PyData.eqv]; rfl
  · simp only [dV, PyData.eqv]; rfl
  · simp only [dV, PyData.eqv]; rfl
  · simp only [dV, PyData.eqv]; rfl
  · simp only [dV, PyData.eqv]
    rw [dS]
    exact Bool.beq_eq_decide_eq z y
  · simp only [dV, PyData.eqv]; rfl
  · simp only [dV, PyData.eqv]; rfl
  · simp only [dV, PyData.eqv]; rfl
  · simp only [dV, eqv_int]
    rw [dI]
abbrev AllFlat (v : V) (ps : List (Int × V)) : Prop := ∀ x ∈ holds v ps, Flat x
theorem AllHV.flat {v : V} {ps : List (Int × V)} (h : AllHV v ps) : AllFlat v ps := fun x hx => (h x hx).flat
/-! ### runs as tuples -/
abbrev Run := Int × Int × V
def runT (q : Run) : List V := [.int q.1, .int q.2.1, q.2.2]
def dRun (q : Run) : PyData := .tuple [.int q.1, .int q.2.1, dV q.2.2]
abbrev RunsAt (H : Hp) (a : Addr) (L : List Run) : Prop := TupsAt H a (L.map runT)
theorem dpa_runs {K : PySem.W.Frag} {H : Hp} : ∀ {as : List Addr} {L : List Run}, as.length = L.length → (∀ (i : Nat) b x, as[i]? = some b → (L.map runT)[i]? = some x → H b = some (.tup x)) → (∀ q ∈ L, Flat q.2.2) → DpAll K H (as.map V.ref) (L.map dRun)
  | [], [], _, _, _ => .nil
  | [], _ :: _, h, _, _ => by cases h
  | _ :: _, [], h, _, _ => by cases h
  | a :: as, q :: L, h, h2, h3 => .cons (.tup (SqT.of (h2 0 a (runT q) rfl rfl)) (.cons (.int _) (.cons (.int _) (.cons (h3 q List.mem_cons_self).dp .nil)))) (dpa_runs (Nat.succ.inj h) (fun i b x e1 e2 => h2 (i + 1) b x e1 e2) fun r hr => h3 r (List.mem_cons_of_mem _ hr))
theorem dp_runs {K : PySem.W.Frag} {H : Hp} {a : Addr} {L : List Run} (h : RunsAt H a L) (hf : ∀ q ∈ L, Flat q.2.2) : Dp K H (.ref a) (.list (L.map dRun)) := by
  obtain ⟨as, h1, h2, h3⟩ := h
  exact .lst (SqL.of h1) (dpa_runs (by rw [h2, List.length_map]) h3 hf)
theorem sh_runs {L : List Run} (hf : ∀ q ∈ L, Flat q.2.2) : Sh (.list (L.map dRun)) 2 := sh_list (sha_all fun d hd => by
  obtain ⟨q, hq, rfl⟩ := List.mem_map.mp hd
  exact sh_tup (sha_cons (sh_int _ 0) (sha_cons (sh_int _ 0) (sha_cons ((hf q hq).sh 0) (sha_nil 0)))))
theorem eqva_runs_nil : ∀ L : List Run, PyData.eqvAll (L.map dRun) [] = decide (L = [])
  | [] => by simp only [List.map_nil, PyData.eqvAll]; rfl
  | q :: L => by simp only [List.map_cons, PyData.eqvAll]; rfl
/-- the first of the longest runs of v -/
def longStep (v : V) (best : Option (Int × Int)) (q : Run) : Option (Int × Int) := if decide (q.2.2 = v) && (match best with | none => true | some b => decide (q.2.1 - q.1 > b.2)) then some (q.1, q.2.1 - q.1) else best
def longF (v : V) (L : List Run) : Option (Int × Int) := L.foldl (longStep v) none
def BestAt (H : Hp) (u : V) : Option (Int × Int) → Prop
  | none => u = .non
  | some (s, n) => ∃ t, u = .ref t ∧ H t = some (.tup [.int s, .int n])
theorem BestAt.same {H H' : Hp} {u : V} {b : Option (Int × Int)} (s : Same H H') (h : BestAt H u b) : BestAt H' u b := by
  cases b with
  | none => exact h
  | some b =>
    obtain ⟨t, h1, h2⟩ := h
    exact ⟨t, h1, s _ _ h2⟩
def tallyF (v : V) (L : List Run) : Int := ((L.filter fun q => decide (q.2.2 = v)).map fun q => q.2.1 - q.1).sum
/-- the runs from s to e -/
def RunsOf (f : Int → V) (s e : Int) (R : List Run) : Prop := if e ≤ s then R = [] else Rv f s e R
theorem RunsOf.uniq {f : Int → V} {s e : Int} {R R' : List Run} (h : RunsOf f s e R) (h' : RunsOf f s e R') : R = R' := by
  unfold RunsOf at h h'
  by_cases z : e ≤ s
  · rw [if_pos z] at h h'
    rw [h, h']
  · rw [if_neg z] at h h'
    exact rv_uniq h h'
theorem RunsOf.flat {f : Int → V} {s e : Int} {R : List Run} (h : RunsOf f s e R) (hf : ∀ x, Flat (f x)) : ∀ q ∈ R.reverse, Flat q.2.2 := fun q hq => by
  have hq := List.mem_reverse.mp hq
  unfold RunsOf at h
  by_cases z : e ≤ s
  · rw [if_pos z] at h
    rw [h] at hq
    cases hq
  · rw [if_neg z] at h
    obtain ⟨x, hx⟩ := rv_val h q hq
    rw [← hx]
    exact hf x
theorem hi_next {α : Type} {ps : List (Int × α)} {y c : Int} (h : nextCut ps y = some c) : (hi c ps).length < (hi y ps).length := by
  have e : hi c ps = hi c (hi y ps) := by
    rw [hi, hi, List.filter_filter]
    refine List.filter_congr fun p hp => ?_
    have hyc : y < c := by
      cases q : cuts (hi y ps) with
      | nil => rw [nextCut, q] at h; cases h
      | cons d r =>
        rw [nextCut, q] at h
        cases Option.some.inj h
        have : c ∈ cuts (hi y ps) := by rw [q]; exact List.mem_cons_self
        obtain ⟨p, hp, rfl⟩ := List.mem_map.mp this
        exact hi_lt hp
    by_cases z : c < p.1
    · rw [decide_eq_true z, decide_eq_true (show y < p.1 by omega)] <;> rfl
    · rw [decide_eq_false z] <;> rfl
  cases q : hi y ps with
  | nil => rw [nextCut, q] at h; cases h
  | cons p r =>
    have hc : p.1 = c := by rw [nextCut, q] at h; exact Option.some.inj h
    rw [e, q, hi, List.filter_cons, if_neg (by rw [hc]; simp)]
    exact Nat.lt_succ_of_le (List.length_filter_le _ _)
/-- a pair that tells a line, as a value -/
def PairAt (B : Hp) (x : V) (v : V) (ps : List (Int × V)) : Prop := ∃ t a b, x = .ref t ∧ ToldAt B t a b v ps
theorem PairAt.dp {K : PySem.W.Frag} {B : Hp} {x v : V} {ps : List (Int × V)} (h : PairAt B x v ps) (hv : AllHV v ps) : Dp K B x (.tuple (dTold v ps)) := by
  obtain ⟨t, a, b, rfl, h1, h2, h3⟩ := h
  exact .tup (SqT.of h1) (dpa_told (SqL.of h2) (SqL.of h3) hv)
theorem PairAt.same {B B' : Hp} {x v : V} {ps : List (Int × V)} (s : Same B B') (h : PairAt B x v ps) : PairAt B' x v ps := by
  obtain ⟨t, a, b, e, h⟩ := h
  exact ⟨t, a, b, e, h.same s⟩
theorem ne_nil_len {ps : List (Int × V)} (h : (!decide (cuts ps = [])) = true) : 0 < ps.length := by
  cases ps with
  | nil => cases h
  | cons p r => simp
/-- the last cut further off -/
theorem set_last {v : V} {ps : List (Int × V)} {k : Int} (h : 0 < ps.length) (hk : 0 ≤ k) (hs : Srt ps) : ∃ c ps', atI ((cuts ps).map V.int) (-1) = some (.int c) ∧ ((cuts ps).map V.int).set (ps.length - 1) (.int (c + k)) = (cuts ps').map V.int ∧ holds v ps' = holds v ps ∧ Srt ps' ∧ ps'.length = ps.length := by
  have hne : ps ≠ [] := fun z => by rw [z] at h; cases h
  obtain ⟨r, p, rfl⟩ : ∃ r p, ps = r ++ [p] := ⟨ps.dropLast, ps.getLast hne, (List.dropLast_concat_getLast hne).symm⟩
  obtain ⟨c, g⟩ := p
  refine ⟨c, r ++ [(c + k, g)], ?_, ?_, ?_, ?_, by simp⟩
  · rw [cuts_app, List.map_append]
    exact atI_last _ _
  · rw [cuts_app, List.map_append, cuts_app, List.map_append, List.length_append, List.length_singleton, Nat.add_sub_cancel, List.set_append_right _ _ (by rw [List.length_map, List.length_map]; exact Nat.le_refl _), List.length_map, List.length_map, Nat.sub_self] <;> rfl
  · rw [holds_app, holds_app]
  · obtain ⟨h1, h2, h3⟩ := List.pairwise_append.mp hs
    refine List.pairwise_append.mpr ⟨h1, List.pairwise_singleton _ _, fun a ha b hb => ?_⟩
    have := h3 a ha (c, g) List.mem_cons_self
    rw [List.mem_singleton.mp hb]
    show a.1 ≤ c + k
    have : a.1 ≤ c := this
    omega
section
variable (K : PySem.W.Frag) (C : Addr)
def sp_end_of_run : Sp := fun vs H Q _ => ∃ (p : Addr) (v : V) (ps : List (Int × V)) (x : Int), vs = [.ref p, .int x] ∧ LineAt C H p (cuts ps) (holds v ps) ∧ Srt ps ∧ ps.length ≤ 1000 ∧ ∀ H', Same H H' → Q (optV (nextCut ps x)) H'
def sp_runs : Sp := fun vs H Q _ => ∃ (p : Addr) (v : V) (ps : List (Int × V)) (s e : Int), vs = [.ref p, .int s, .int e] ∧ LineAt C H p (cuts ps) (holds v ps) ∧ Ris ps ∧ Nrm v ps ∧ ps.length ≤ 1000 ∧
  ∀ (H' : Hp) (a : Addr) (R : List Run), H a = none → Same H H' → RunsAt H' a R.reverse → RunsOf (at_ v ps) s e R → R.length ≤ ps.length + 1 → Q (.ref a) H'
def sp_tally : Sp := fun vs H Q _ => ∃ (p : Addr) (v : V) (ps : List (Int × V)) (s e : Int) (u : V), vs = [.ref p, u, .int s, .int e] ∧ LineAt C H p (cuts ps) (holds v ps) ∧ Ris ps ∧ Nrm v ps ∧ ps.length ≤ 1000 ∧ AllFlat v ps ∧ Flat u ∧
  ∀ (H' : Hp) (R : List Run), Same H H' → RunsOf (at_ v ps) s e R → Q (.int (tallyF u R.reverse)) H'
def sp_longest : Sp := fun vs H Q _ => ∃ (p : Addr) (v : V) (ps : List (Int × V)) (s e : Int) (u : V), vs = [.ref p, u, .int s, .int e] ∧ LineAt C H p (cuts ps) (holds v ps) ∧ Ris ps ∧ Nrm v ps ∧ ps.length ≤ 1000 ∧ AllFlat v ps ∧ Flat u ∧
  ∀ (H' : Hp) (R : List Run) (b : V), Same H H' → RunsOf (at_ v ps) s e R → BestAt H' b (longF u R.reverse) → Q b H'
def sp_first_room (D : Addr) : Sp := fun vs H Q E => ∃ (p : Addr) (v : V) (ps : List (Int × V)) (u : V) (x n : Int), vs = [.ref p, u, .int x, .int n] ∧ LineAt C H p (cuts ps) (holds v ps) ∧ Ris ps ∧ Nrm v ps ∧ ps.length ≤ 1000 ∧ AllFlat v ps ∧ Flat u ∧
  ((n < 1 ∧ E (.ref D) none H) ∨ (1 ≤ n ∧ ∀ (H' : Hp) (r : Option Int), Same H H' → IsRoom (at_ v ps) u x n r → Q (optV r) H'))
/-- a promise of True -/
def sp_yes (N : List V → Hp → Prop) : Sp := fun vs H Q _ => N vs H ∧ ∀ H', Same H H' → Q (.bl true) H'
def sp_parted : Sp := fun vs H Q _ => ∃ (p q : Addr) (v u : V) (ps qs : List (Int × V)) (x : Int), vs = [.ref p, .ref q, .int x] ∧ LineAt C H p (cuts ps) (holds v ps) ∧ LineAt C H q (cuts qs) (holds u qs) ∧ Srt ps ∧ Srt qs ∧ ps.length ≤ 1000 ∧ qs.length ≤ 1000 ∧ AllFlat v ps ∧ AllFlat u qs ∧
  ∀ (H' : Hp) (r : Option Int), Same H H' → IsPart (at_ v ps) (at_ u qs) x r → Q (optV r) H'
/-! the laws' -/
def sp_law_runs : Sp := fun vs H Q _ => ∃ (t lc lh : Addr) (v : V) (ps : List (Int × V)) (s e : Int), vs = [.ref t, .int s, .int e] ∧ ToldAt H t lc lh v ps ∧ AllFlat v ps ∧ ps.length ≤ 1000 ∧
  ∀ (H' : Hp) (a : Addr) (R : List Run), H a = none → Same H H' → RunsAt H' a R.reverse → RunsOf (at_ v ps) s e R → R.length ≤ ps.length + 1 → Q (.ref a) H'
def sp_law_alike : Sp := fun vs H Q _ => ∃ (a b : Addr) (L : List Run), vs = [.ref a, .ref b] ∧ RunsAt H a L ∧ RunsAt H b L ∧ (∀ q ∈ L, HV q.2.2) ∧ L.length ≤ 2000 ∧ ∀ H', Same H H' → Q (.bl true) H'
def sp_law_longest : Sp := fun vs H Q _ => ∃ (a : Addr) (L : List Run) (u : V), vs = [.ref a, u] ∧ RunsAt H a L ∧ (∀ q ∈ L, Flat q.2.2) ∧ Flat u ∧ ∀ (H' : Hp) (b : V), Same H H' → BestAt H' b (longF u L) → Q b H'
def sp_law_end : Sp := fun vs H Q _ => ∃ (t lc lh : Addr) (v : V) (ps : List (Int × V)) (c : Int), vs = [.ref t, .int c] ∧ ToldAt H t lc lh v ps ∧ ps.length ≤ 1000 ∧ ∀ H' i, Same H H' → Q (.int i) H'
def sp_law_apart : Sp := fun vs H Q _ => ∃ (t lc lh t' lc' lh' : Addr) (v u : V) (ps qs : List (Int × V)) (x : Int), vs = [.ref t, .ref t', .int x] ∧ ToldAt H t lc lh v ps ∧ ToldAt H t' lc' lh' u qs ∧ ps.length ≤ 400 ∧ qs.length ≤ 400 ∧ AllFlat v ps ∧ AllFlat u qs ∧
  ∀ (H' : Hp) (r : Option Int), Same H H' → IsPart (at_ v ps) (at_ u qs) x r → Q (optV r) H'
def sp_law_refused_room : Sp := fun vs H Q _ => ∃ (p : Addr) (v : V) (ps : List (Int × V)) (u : V) (x n : Int), vs = [.ref p, u, .int x, .int n] ∧ LineAt C H p (cuts ps) (holds v ps) ∧ Ris ps ∧ Nrm v ps ∧ ps.length ≤ 1000 ∧ AllFlat v ps ∧ Flat u ∧ n < 1 ∧ ∀ H', Same H H' → Q (.bl true) H'
def sp_law_room : Sp := fun vs H Q _ => ∃ (t lc lh : Addr) (v : V) (ps : List (Int × V)) (u : V) (x n : Int), vs = [.ref t, u, .int x, .int n] ∧ ToldAt H t lc lh v ps ∧ ps.length ≤ 1000 ∧ AllFlat v ps ∧ Flat u ∧ 1 ≤ n ∧
  ∀ (H' : Hp) (r : Option Int), Same H H' → IsRoom (at_ v ps) u x n r → Q (optV r) H'
end
end Cut
/-! promises of deeds that may be refused -/
namespace Cut
open PySem PySem.Spec PyProof.Rows L2 Wk
/-- no such deed, or one that can't be done -/
def BadT (xs : List V) : Prop := (∃ p n : Int, xs = [.str "open", .int p, .int n] ∧ n < 0) ∨ (∃ p n : Int, xs = [.str "close", .int p, .int n] ∧ n < 0) ∨ (∃ t : Int, xs = [.str "stretch", .int t] ∧ t < 1) ∨
  ∃ (z : Str) (r : List V), xs = .str z :: r ∧ decide (z = "put") = false ∧ decide (z = "open") = false ∧ decide (z = "close") = false ∧ decide (z = "stretch") = false
theorem back_opn0 {α : Type} {o : α} {f : Int → α} {p x : Int} : back o f (.opn p 0) x = f x := by
  rw [back_opn, Int.add_zero, Int.sub_zero]
  by_cases h : x < p
  · rw [if_pos h]
  · rw [if_neg h, if_neg h]
theorem back_cls0 {α : Type} {o : α} {f : Int → α} {p x : Int} : back o f (.cls p 0) x = f x := by
  rw [back_cls, Int.add_zero]
  split <;> rfl
theorem back_str1 {α : Type} {o : α} {f : Int → α} {x : Int} : back o f (.str 1) x = f x := by
  show f (x / 1) = f x
  rw [Int.ediv_one]
theorem bad_word {i : Int} (h0 : 0 ≤ i) (h1 : i < 6) : ∃ z, atI [V.str "", .str "Put", .str "opens", .str "mark", .str "shut", .str "stretch "] i = some (.str z) ∧ decide (z = "put") = false ∧ decide (z = "open") = false ∧ decide (z = "close") = false ∧ decide (z = "stretch") = false := by
  have h : i = 0 ∨ i = 1 ∨ i = 2 ∨ i = 3 ∨ i = 4 ∨ i = 5 := by omega
  rcases h with rfl | rfl | rfl | rfl | rfl | rfl
  · exact ⟨_, rfl, by decide +kernel, by decide +kernel, by decide +kernel, by decide +kernel⟩
  · exact ⟨_, rfl, by decide +kernel, by decide +kernel, by decide +kernel, by decide +kernel⟩
  · exact ⟨_, rfl, by decide +kernel, by decide +kernel, by decide +kernel, by decide +kernel⟩
  · exact ⟨_, rfl, by decide +kernel, by decide +kernel, by decide +kernel, by decide +kernel⟩
  · exact ⟨_, rfl, by decide +kernel, by decide +kernel, by decide +kernel, by decide +kernel⟩
  · exact ⟨_, rfl, by decide +kernel, by decide +kernel, by decide +kernel, by decide +kernel⟩
section
variable (C D : Addr)
def sp_openedX : Sp := fun vs H Q E => ∃ (p : Addr) (v : V) (ps : List (Int × V)) (x n : Int), vs = [.ref p, .int x, .int n] ∧ LineOk C H p v ps ∧ ps.length ≤ 900 ∧ ((n < 0 ∧ E (.ref D) none H) ∨ (0 ≤ n ∧ DoneK C H Q v ps (.opn x n)))
def sp_closedX : Sp := fun vs H Q E => ∃ (p : Addr) (v : V) (ps : List (Int × V)) (x n : Int), vs = [.ref p, .int x, .int n] ∧ LineOk C H p v ps ∧ ps.length ≤ 900 ∧ ((n < 0 ∧ E (.ref D) none H) ∨ (0 ≤ n ∧ DoneK C H Q v ps (.cls x n)))
def sp_stretchedX : Sp := fun vs H Q E => ∃ (p : Addr) (v : V) (ps : List (Int × V)) (t : Int), vs = [.ref p, .int t] ∧ LineOk C H p v ps ∧ ps.length ≤ 900 ∧ ((t < 1 ∧ E (.ref D) none H) ∨ (1 ≤ t ∧ t ≤ 3 ∧ DoneK C H Q v ps (.str t)))
def sp_doneX : Sp := fun vs H Q E => ∃ (p a : Addr) (v : V) (ps : List (Int × V)), vs = [.ref p, .ref a] ∧ LineOk C H p v ps ∧ ps.length ≤ 900 ∧
  ((∃ xs, H a = some (.tup xs) ∧ BadT xs ∧ E (.ref D) none H) ∨ ∃ d, H a = some (.tup (deedT d)) ∧ DOk d ∧ DoneK C H Q v ps d)
def sp_law_refused_deed : Sp := fun vs H Q _ => ∃ (p a : Addr) (v : V) (ps : List (Int × V)) (xs : List V), vs = [.ref p, .ref a] ∧ LineOk C H p v ps ∧ ps.length ≤ 900 ∧ H a = some (.tup xs) ∧ BadT xs ∧ ∀ H', Same H H' → Q (.bl true) H'
def sp_law_refused_by_name : Sp := fun vs H Q _ => ∃ (p : Addr) (v : V) (ps : List (Int × V)) (k x n : Int), vs = [.ref p, .int k, .int x, .int n] ∧ LineOk C H p v ps ∧ ps.length ≤ 900 ∧ n < 0 ∧ 0 ≤ k ∧ k < 3 ∧ ∀ H', Same H H' → Q (.bl true) H'
end
end Cut
/-! promises of lines laid on one another -/
namespace Cut
open PySem PySem.Spec PyProof.Rows L2 Wk
theorem AllFlat.ne {K : PySem.W.Frag} {H : Hp} {v : V} {ps : List (Int × V)} (h : AllFlat v ps) : ∀ x ∈ holds v ps, ∀ y ∈ holds v ps, NeOk K H x y (decide (x = y)) := fun x hx y hy _ _ _ q => g_neV ((h x hx).scal (h y hy)) q
theorem AllFlat.keep {v : V} {ps : List (Int × V)} (h : AllFlat v ps) : AllFlat v (keep v ps) := fun x hx => by
  rcases List.mem_cons.mp hx with e | e
  · rw [e]; exact h _ List.mem_cons_self
  · obtain ⟨p, hp, rfl⟩ := List.mem_map.mp e
    exact h _ (List.mem_cons_of_mem _ (List.mem_map.mpr ⟨p, keepB_mem hp, rfl⟩))
/-- 1 where both are the same, else 0 -/
def alikeV (x y : V) : V := .int (if decide (x = y) then 1 else 0)
theorem alikeV_flat (x y : V) : Flat (alikeV x y) := .inr (.inr ⟨_, rfl⟩)
/-- two lines' cuts together -/
theorem steps_both {f g : Int → V} {G : V → V → V} {es fs hs : List Int} (hf : Steps f es) (hg : Steps g fs) (h : ∀ k, k ∈ hs ↔ k ∈ es ++ fs) : Steps (fun x => G (f x) (g x)) hs := fun x y hxy hx => by
  show G (f x) (g x) = G (f y) (g y)
  rw [hf x y hxy fun e he => hx e ((h e).mpr (List.mem_append_left _ he)), hg x y hxy fun e he => hx e ((h e).mpr (List.mem_append_right _ he))]
theorem lo_both {G : V → V → V} {v u : V} {ps qs : List (Int × V)} {hs : List Int} (h : ∀ k, k ∈ hs ↔ k ∈ cuts ps ++ cuts qs) (x : Int) (hx : ∀ e ∈ hs, x < e) : G (at_ v ps x) (at_ u qs x) = G v u := by
  rw [at_lo fun p hp => hx _ ((h _).mpr (List.mem_append_left _ (List.mem_map.mpr ⟨p, hp, rfl⟩))), at_lo fun p hp => hx _ ((h _).mpr (List.mem_append_right _ (List.mem_map.mpr ⟨p, hp, rfl⟩)))]
section
variable (K : PySem.W.Frag) (C : Addr)
/-- joined by the way that f is, which makes G of two values -/
def sp_joined (f : Addr) (G : V → V → V) : Sp := fun vs H Q _ => ∃ (p q : Addr) (v u : V) (ps qs : List (Int × V)), vs = [.ref p, .ref q, .ref f] ∧ LineAt C H p (cuts ps) (holds v ps) ∧ LineAt C H q (cuts qs) (holds u qs) ∧ Srt ps ∧ Srt qs ∧ ps.length ≤ 400 ∧ qs.length ≤ 400 ∧ AllFlat v ps ∧ AllFlat u qs ∧
  ∀ (H' : Hp) (r : Addr) (v' : V) (ps' : List (Int × V)), H r = none → Same H H' → LineAt C H' r (cuts ps') (holds v' ps') → Ris ps' → Nrm v' ps' → AllFlat v' ps' → ps'.length ≤ ps.length + qs.length → (∀ x, at_ v' ps' x = G (at_ v ps x) (at_ u qs x)) → Q (.ref r) H'
def sp_alike_by : Sp := fun vs H Q _ => ∃ x y : V, vs = [x, y] ∧ Flat x ∧ Flat y ∧ ∀ H', Same H H' → Q (alikeV x y) H'
def sp_law_both : Sp := fun vs H Q _ => ∃ (t lc lh t' lc' lh' : Addr) (v u : V) (ps qs : List (Int × V)), vs = [.ref t, .ref t'] ∧ ToldAt H t lc lh v ps ∧ ToldAt H t' lc' lh' u qs ∧ ps.length ≤ 400 ∧ qs.length ≤ 400 ∧ AllFlat v ps ∧ AllFlat u qs ∧
  ∀ (H' : Hp) (r mc mh : Addr) (v' : V) (ps' : List (Int × V)), H r = none → Same H H' → ToldAt H' r mc mh v' ps' → Srt ps' → AllFlat v' ps' → ps'.length ≤ ps.length + qs.length → (∀ x, at_ v' ps' x = alikeV (at_ v ps x) (at_ u qs x)) → Q (.ref r) H'
def sp_law_told15 : Sp := fun vs H Q _ => ∃ x y : V, vs = [x, y] ∧ ((x = .non ∧ y = .non) ∨ (∃ i, x = .int i ∧ y = .int i) ∨ ∃ s n, ∃ t1 t2, x = .ref t1 ∧ y = .ref t2 ∧ H t1 = some (.tup [.int s, .int n]) ∧ H t2 = some (.tup [.int s, .int n])) ∧ ∀ H', Same H H' → Q (.bl true) H'
def sp_law_parts : Sp := fun vs H Q _ => ∃ (a b : Addr) (L : List Run), vs = [.ref a, .ref b] ∧ RunsAt H a L ∧ RunsAt H b L ∧ (∀ q ∈ L, Flat q.2.2) ∧ L.length ≤ 2000 ∧ ∀ H', Same H H' → Q (.bl true) H'
def sp_law_asked : Sp := fun vs H Q _ => ∃ (p t lc lh : Addr) (v u : V) (ps qs : List (Int × V)) (s e n : Int) (x : V), vs = [.ref p, .ref t, .int s, .int e, x, .int n] ∧ LineAt C H p (cuts ps) (holds v ps) ∧ Ris ps ∧ Nrm v ps ∧ ps.length ≤ 1000 ∧ AllFlat v ps ∧
  ToldAt H t lc lh u qs ∧ AllFlat u qs ∧ qs.length ≤ 1000 ∧ (∀ x, at_ v ps x = at_ u qs x) ∧ Flat x ∧ 1 ≤ n ∧ ∀ H', Same H H' → Q (.bl true) H'
def sp_first_room0 : Sp := fun vs H Q _ => ∃ (p : Addr) (v : V) (ps : List (Int × V)) (u : V) (x n : Int), vs = [.ref p, u, .int x, .int n] ∧ LineAt C H p (cuts ps) (holds v ps) ∧ Ris ps ∧ Nrm v ps ∧ ps.length ≤ 1000 ∧ AllFlat v ps ∧ Flat u ∧ 1 ≤ n ∧ ∀ (H' : Hp) (r : Option Int), Same H H' → IsRoom (at_ v ps) u x n r → Q (optV r) H'
end
end Cut
namespace Cut
open PySem PySem.Spec PyProof.Rows L2 Wk
def topS (i : Nat) : Stmt := PySem.Challenge.pw_cutline_k15_whole_asked_behind_deeds.main.body.getD i (.Pass ⟨0, 0, 0, 0⟩)
abbrev s_Line_init : Stmt := inClass (topS 5) 0
abbrev N_Line_init : List Str := ["self", "cuts", "holds"]
theorem sc_Line_init : FnScope N_Line_init ["self", "cuts", "holds"] (defScope s_Line_init) := ⟨rfl, rfl, rfl, by decide +kernel, rfl, by decide +kernel, by decide +kernel⟩
abbrev s_line_of : Stmt := topS 6
abbrev N_line_of : List Str := ["cuts", "holds", "kept_cuts", "kept_holds", "k", "empty"]
theorem sc_line_of : FnScope N_line_of ["cuts", "holds"] (defScope s_line_of) := ⟨rfl, rfl, rfl, by decide +kernel, rfl, by decide +kernel, by decide +kernel⟩
abbrev s_empty_line : Stmt := topS 7
abbrev N_empty_line : List Str := []
theorem sc_empty_line : FnScope N_empty_line [] (defScope s_empty_line) := ⟨rfl, rfl, rfl, by decide +kernel, rfl, by decide +kernel, by decide +kernel⟩
abbrev s_value_at : Stmt := topS 8
abbrev N_value_at : List Str := ["line", "place", "count", "cut"]
theorem sc_value_at : FnScope N_value_at ["line", "place"] (defScope s_value_at) := ⟨rfl, rfl, rfl, by decide +kernel, rfl, by decide +kernel, by decide +kernel⟩
abbrev s_behind : Stmt := topS 9
abbrev N_behind : List Str := ["line", "place", "cuts", "cut"]
theorem sc_behind : FnScope N_behind ["line", "place"] (defScope s_behind) := ⟨rfl, rfl, rfl, by decide +kernel, rfl, by decide +kernel, by decide +kernel⟩
abbrev s_ahead : Stmt := topS 10
abbrev N_ahead : List Str := ["line", "place", "cuts", "cut"]
theorem sc_ahead : FnScope N_ahead ["line", "place"] (defScope s_ahead) := ⟨rfl, rfl, rfl, by decide +kernel, rfl, by decide +kernel, by decide +kernel⟩
abbrev s_end_of_run : Stmt := topS 12
abbrev N_end_of_run : List Str := ["line", "place", "cuts"]
theorem sc_end_of_run : FnScope N_end_of_run ["line", "place"] (defScope s_end_of_run) := ⟨rfl, rfl, rfl, by decide +kernel, rfl, by decide +kernel, by decide +kernel⟩
abbrev s_runs : Stmt := topS 13
abbrev N_runs : List Str := ["line", "start", "end", "found", "here", "stop"]
theorem sc_runs : FnScope N_runs ["line", "start", "end"] (defScope s_runs) := ⟨rfl, rfl, rfl, by decide +kernel, rfl, by decide +kernel, by decide +kernel⟩
abbrev s_tally : Stmt := topS 14
abbrev N_tally : List Str := ["line", "value", "start", "end", "run"]
theorem sc_tally : FnScope N_tally ["line", "value", "start", "end"] (defScope s_tally) := ⟨rfl, rfl, rfl, by decide +kernel, rfl, by decide +kernel, by decide +kernel⟩
abbrev s_longest : Stmt := topS 15
abbrev N_longest : List Str := ["line", "value", "start", "end", "best", "run"]
theorem sc_longest : FnScope N_longest ["line", "value", "start", "end"] (defScope s_longest) := ⟨rfl, rfl, rfl, by decide +kernel, rfl, by decide +kernel, by decide +kernel⟩
abbrev s_first_room : Stmt := topS 16
abbrev N_first_room : List Str := ["line", "value", "place", "size", "here", "stop"]
theorem sc_first_room : FnScope N_first_room ["line", "value", "place", "size"] (defScope s_first_room) := ⟨rfl, rfl, rfl, by decide +kernel, rfl, by decide +kernel, by decide +kernel⟩
abbrev s_parted : Stmt := topS 17
abbrev N_parted : List Str := ["one", "other", "place", "cut"]
theorem sc_parted : FnScope N_parted ["one", "other", "place"] (defScope s_parted) := ⟨rfl, rfl, rfl, by decide +kernel, rfl, by decide +kernel, by decide +kernel⟩
abbrev s_put : Stmt := topS 19
abbrev N_put : List Str := ["line", "start", "end", "value", "cuts", "holds", "left", "right"]
theorem sc_put : FnScope N_put ["line", "start", "end", "value"] (defScope s_put) := ⟨rfl, rfl, rfl, by decide +kernel, rfl, by decide +kernel, by decide +kernel⟩
abbrev s_opened : Stmt := topS 20
abbrev N_opened : List Str := ["line", "place", "size", "left", "right", "cuts", "cut"]
theorem sc_opened : FnScope N_opened ["line", "place", "size"] (defScope s_opened) := ⟨rfl, rfl, rfl, by decide +kernel, rfl, by decide +kernel, by decide +kernel⟩
abbrev s_closed : Stmt := topS 21
abbrev N_closed : List Str := ["line", "place", "size", "left", "right", "cuts", "cut"]
theorem sc_closed : FnScope N_closed ["line", "place", "size"] (defScope s_closed) := ⟨rfl, rfl, rfl, by decide +kernel, rfl, by decide +kernel, by decide +kernel⟩
abbrev s_stretched : Stmt := topS 22
abbrev N_stretched : List Str := ["line", "times", "cut"]
theorem sc_stretched : FnScope N_stretched ["line", "times"] (defScope s_stretched) := ⟨rfl, rfl, rfl, by decide +kernel, rfl, by decide +kernel, by decide +kernel⟩
abbrev s_done : Stmt := topS 23
abbrev N_done : List Str := ["line", "deed"]
theorem sc_done : FnScope N_done ["line", "deed"] (defScope s_done) := ⟨rfl, rfl, rfl, by decide +kernel, rfl, by decide +kernel, by decide +kernel⟩
abbrev s_joined : Stmt := topS 25
abbrev N_joined : List Str := ["one", "other", "way", "cuts", "holds", "cut"]
theorem sc_joined : FnScope N_joined ["one", "other", "way"] (defScope s_joined) := ⟨rfl, rfl, rfl, by decide +kernel, rfl, by decide +kernel, by decide +kernel⟩
abbrev s_law_cell_at : Stmt := topS 27
abbrev N_law_cell_at : List Str := ["script", "k"]
theorem sc_law_cell_at : FnScope N_law_cell_at ["script", "k"] (defScope s_law_cell_at) := ⟨rfl, rfl, rfl, by decide +kernel, rfl, by decide +kernel, by decide +kernel⟩
abbrev s_law_names : Stmt := topS 28
abbrev N_law_names : List Str := ["cell", "letters", "first", "size", "k"]
theorem sc_law_names : FnScope N_law_names ["cell"] (defScope s_law_names) := ⟨rfl, rfl, rfl, by decide +kernel, rfl, by decide +kernel, by decide +kernel⟩
abbrev s_law_deed : Stmt := topS 29
abbrev N_law_deed : List Str := ["one", "two", "names", "place", "size", "ends"]
theorem sc_law_deed : FnScope N_law_deed ["one", "two", "names"] (defScope s_law_deed) := ⟨rfl, rfl, rfl, by decide +kernel, rfl, by decide +kernel, by decide +kernel⟩
abbrev s_law_deeds : Stmt := topS 30
abbrev N_law_deeds : List Str := ["cells", "names", "k"]
theorem sc_law_deeds : FnScope N_law_deeds ["cells", "names"] (defScope s_law_deeds) := ⟨rfl, rfl, rfl, by decide +kernel, rfl, by decide +kernel, by decide +kernel⟩
abbrev s_law_value : Stmt := topS 31
abbrev N_law_value : List Str := ["deeds", "place", "deed", "late"]
theorem sc_law_value : FnScope N_law_value ["deeds", "place"] (defScope s_law_value) := ⟨rfl, rfl, rfl, by decide +kernel, rfl, by decide +kernel, by decide +kernel⟩
abbrev s_law_edges_behind : Stmt := topS 32
abbrev N_law_edges_behind : List Str := ["edges", "deed", "place", "moved", "end", "edge"]
theorem sc_law_edges_behind : FnScope N_law_edges_behind ["edges", "deed"] (defScope s_law_edges_behind) := ⟨rfl, rfl, rfl, by decide +kernel, rfl, by decide +kernel, by decide +kernel⟩
abbrev s_law_edges : Stmt := topS 33
abbrev N_law_edges : List Str := ["deeds", "edges", "deed"]
theorem sc_law_edges : FnScope N_law_edges ["deeds"] (defScope s_law_edges) := ⟨rfl, rfl, rfl, by decide +kernel, rfl, by decide +kernel, by decide +kernel⟩
abbrev s_law_due : Stmt := topS 34
abbrev N_law_due : List Str := ["deeds", "edges", "cuts", "holds", "edge", "value"]
theorem sc_law_due : FnScope N_law_due ["deeds"] (defScope s_law_due) := ⟨rfl, rfl, rfl, by decide +kernel, rfl, by decide +kernel, by decide +kernel⟩
abbrev s_law_whole : Stmt := topS 35
abbrev N_law_whole : List Str := ["found"]
theorem sc_law_whole : FnScope N_law_whole ["found"] (defScope s_law_whole) := ⟨rfl, rfl, rfl, by decide +kernel, rfl, by decide +kernel, by decide +kernel⟩
abbrev s_law_held : Stmt := topS 36
abbrev N_law_held : List Str := ["found", "due"]
theorem sc_law_held : FnScope N_law_held ["found", "due"] (defScope s_law_held) := ⟨rfl, rfl, rfl, by decide +kernel, rfl, by decide +kernel, by decide +kernel⟩
abbrev s_law_at : Stmt := topS 37
abbrev N_law_at : List Str := ["told", "place", "value", "k"]
theorem sc_law_at : FnScope N_law_at ["told", "place"] (defScope s_law_at) := ⟨rfl, rfl, rfl, by decide +kernel, rfl, by decide +kernel, by decide +kernel⟩
abbrev s_law_runs : Stmt := topS 38
abbrev N_law_runs : List Str := ["told", "start", "end", "found", "edges", "k", "stop", "value", "cut"]
theorem sc_law_runs : FnScope N_law_runs ["told", "start", "end"] (defScope s_law_runs) := ⟨rfl, rfl, rfl, by decide +kernel, rfl, by decide +kernel, by decide +kernel⟩
abbrev s_law_longest : Stmt := topS 39
abbrev N_law_longest : List Str := ["due", "value", "best", "part", "size"]
theorem sc_law_longest : FnScope N_law_longest ["due", "value"] (defScope s_law_longest) := ⟨rfl, rfl, rfl, by decide +kernel, rfl, by decide +kernel, by decide +kernel⟩
abbrev s_law_room : Stmt := topS 40
abbrev N_law_room : List Str := ["told", "value", "place", "size", "starts", "since", "k", "cut"]
theorem sc_law_room : FnScope N_law_room ["told", "value", "place", "size"] (defScope s_law_room) := ⟨rfl, rfl, rfl, by decide +kernel, rfl, by decide +kernel, by decide +kernel⟩
abbrev s_law_apart : Stmt := topS 41
abbrev N_law_apart : List Str := ["told", "other", "place", "spot", "cut"]
theorem sc_law_apart : FnScope N_law_apart ["told", "other", "place"] (defScope s_law_apart) := ⟨rfl, rfl, rfl, by decide +kernel, rfl, by decide +kernel, by decide +kernel⟩
abbrev s_law_place : Stmt := topS 42
abbrev N_law_place : List Str := ["due", "cell"]
theorem sc_law_place : FnScope N_law_place ["due", "cell"] (defScope s_law_place) := ⟨rfl, rfl, rfl, by decide +kernel, rfl, by decide +kernel, by decide +kernel⟩
abbrev s_law_told : Stmt := topS 43
abbrev N_law_told : List Str := ["found", "due"]
theorem sc_law_told : FnScope N_law_told ["found", "due"] (defScope s_law_told) := ⟨rfl, rfl, rfl, by decide +kernel, rfl, by decide +kernel, by decide +kernel⟩
abbrev s_law_parts : Stmt := topS 44
abbrev N_law_parts : List Str := ["found", "due", "k"]
theorem sc_law_parts : FnScope N_law_parts ["found", "due"] (defScope s_law_parts) := ⟨rfl, rfl, rfl, by decide +kernel, rfl, by decide +kernel, by decide +kernel⟩
abbrev s_law_asked : Stmt := topS 45
abbrev N_law_asked : List Str := ["line", "due", "start", "end", "value", "size", "parts", "many", "part"]
theorem sc_law_asked : FnScope N_law_asked ["line", "due", "start", "end", "value", "size"] (defScope s_law_asked) := ⟨rfl, rfl, rfl, by decide +kernel, rfl, by decide +kernel, by decide +kernel⟩
abbrev s_law_alike_by : Stmt := topS 46
abbrev N_law_alike_by : List Str := ["one", "other"]
theorem sc_law_alike_by : FnScope N_law_alike_by ["one", "other"] (defScope s_law_alike_by) := ⟨rfl, rfl, rfl, by decide +kernel, rfl, by decide +kernel, by decide +kernel⟩
abbrev s_law_both : Stmt := topS 47
abbrev N_law_both : List Str := ["one", "other", "cuts", "holds", "cut"]
theorem sc_law_both : FnScope N_law_both ["one", "other"] (defScope s_law_both) := ⟨rfl, rfl, rfl, by decide +kernel, rfl, by decide +kernel, by decide +kernel⟩
abbrev s_law : Stmt := topS 48
abbrev N_law : List Str := ["script", "names", "deeds", "line", "elder", "deed", "due", "was", "start", "end", "value", "size", "both"]
theorem sc_law : FnScope N_law ["script"] (defScope s_law) := ⟨rfl, rfl, rfl, by decide +kernel, rfl, by decide +kernel, by decide +kernel⟩
end Cut
namespace Cut
open PySem PySem.Spec PyProof.Rows L2 Wk
section
variable {P : Program} {w : World} {K : PySem.W.Frag} {mg : Str → Option Value} {base : Heap}
local macro_rules | `(tactic| walk_at "sm") => `(tactic| first
  | exact Same.refl _
  | assumption
  | (refine' Wk.Same.via ?sm1 (by assumption); (case sm1 => walk_at "sm"))
  | (refine' Wk.Same.mutd ?sm1 (by assumption) ?sm2; (case sm1 => walk_at "sm"); (case sm2 => walk_at "fr")))
local macro_rules | `(tactic| walk_at "fr") => `(tactic| first
  | assumption
  | (refine' Wk.fresh_back ?fr1 (by assumption); (case fr1 => walk_at "sm")))
local macro_rules | `(tactic| walk_at "ne") => `(tactic| first
  | assumption
  | (refine Ne.symm ?ne1; (case ne1 => assumption))
  | (refine' ne_of_none ?ne1 (by assumption); (case ne1 => walk_at "get"))
  | (refine' Ne.symm (ne_of_none ?ne1 (by assumption)); (case ne1 => walk_at "get")))
local macro_rules | `(tactic| walk_at "get") => `(tactic| first
  | assumption
  | (refine' Wk.get_via (by assumption) ?get1; (case get1 => walk_at "get"))
  | (refine' Wk.get_mv (by assumption) ?get2 ?get1; (case get1 => walk_at "get"); (case get2 => walk_at "ne")))
local macro_rules | `(tactic| walk_at "sq") => `(tactic| first
  | assumption
  | (refine' Wk.seqL ?sq1 (by assumption); (case sq1 => walk_at "sm"))
  | (refine' Wk.seqT ?sq1 (by assumption); (case sq1 => walk_at "sm"))
  | (refine' SqL.of ?sq1; (case sq1 => walk_at "get"))
  | (refine' SqT.of ?sq1; (case sq1 => walk_at "get")))
local macro_rules | `(tactic| walk_at "ix") => `(tactic| first
  | rfl
  | assumption
  | exact atI_nat (by assumption)
  | exact Wk.at_nat (Int.natCast_succ _).symm (by assumption))
local macro_rules | `(tactic| walk_at "ar") => `(tactic| first
  | assumption
  | exact abc_len
  | decide
  | omega
  | exact ⟨by decide, by decide⟩
  | exact ⟨by omega, by omega⟩
  | exact ⟨by decide, by decide, by decide⟩
  | exact Or.inr ⟨by omega, by omega⟩
  | exact Or.inl ⟨by omega, by omega⟩
  | (simp only [List.length_append, List.length_cons, List.length_nil, List.length_map]; omega))
/-! one step -/
local macro_rules | `(tactic| walk_at "wk") => `(tactic| first
  | ((with_reducible refine' Wk.g_var ?c ?_); (case c => rfl))
  | with_reducible refine' Wk.g_c ?_
  | with_reducible refine' Wk.g_seq ?_
  | with_reducible refine' Wk.g_asg ?_
  | ((with_reducible refine' Wk.g_name ?_); dsimp only [List.set])
  | with_reducible refine' Wk.g_op ?_
  | with_reducible refine' Wk.g_un ?_
  | with_reducible refine' Wk.g_I0 ?_
  | with_reducible refine' Wk.g_U ?_
  | ((with_reducible refine' Wk.g_I ?c ?_); (case c => walk_at "ar"))
  | with_reducible refine' Wk.g_addI ?_
  | ((with_reducible refine' Wk.g_addS ?c ?_); (case c => walk_at "ar"))
  | ((with_reducible refine' Wk.g_addL ?c1 ?c2 ?c ?_); (case c1 => walk_at "get"); (case c2 => walk_at "get"); (case c => walk_at "ar"); intro _ _ _ _ _)
  | ((with_reducible refine' Wk.g_ixL ?c1 ?c ?_); (case c1 => walk_at "sq"); (case c => walk_at "ix"))
  | ((with_reducible refine' Wk.g_ixT ?c1 ?c ?_); (case c1 => walk_at "sq"); (case c => walk_at "ix"))
  | ((with_reducible refine' Wk.g_ixS ?c1 ?c ?_); (case c1 => walk_at "ar"); (case c => walk_at "ix"))
  | with_reducible refine' Wk.g_eqI ?_
  | with_reducible refine' Wk.g_eqS ?_
  | with_reducible refine' Wk.g_eqB ?_
  | with_reducible refine' Wk.g_neI ?_
  | with_reducible refine' Wk.g_neS ?_
  | with_reducible refine' Wk.g_isNN ?_
  | with_reducible refine' Wk.g_isNI ?_
  | with_reducible refine' Wk.g_isNS ?_
  | with_reducible refine' Wk.g_isNR ?_
  | with_reducible refine' Wk.g_isNV ?_
  | with_reducible refine' Wk.g_notNN ?_
  | with_reducible refine' Wk.g_notNI ?_
  | with_reducible refine' Wk.g_notNS ?_
  | with_reducible refine' Wk.g_notNR ?_
  | with_reducible refine' Wk.g_notNV ?_
  | with_reducible refine' Wk.g_nil ?_
  | with_reducible refine' Wk.g_cons ?_
  | with_reducible refine' Wk.g_CB ?_
  | with_reducible refine' Wk.g_call ?_
  | ((with_reducible refine' Wk.g_lenL ?c ?_); (case c => walk_at "sq"))
  | ((with_reducible refine' Wk.g_lenT ?c ?_); (case c => walk_at "sq"))
  | ((with_reducible refine' Wk.g_lenS ?c ?_); (case c => walk_at "ar"))
  | ((with_reducible refine' Wk.g_list ?c ?_); (case c => walk_at "sq"); intro _ _ _ _ _)
  | with_reducible refine' Wk.g_max2 ?_
  | with_reducible refine' Wk.g_min2 ?_
  | with_reducible refine' Wk.g_lst ?_
  | with_reducible refine' Wk.g_tup ?_
  | ((with_reducible refine' Wk.g_kLst ?c ?_); (case c => walk_at "ar"); intro _ _ _ _ _)
  | ((with_reducible refine' Wk.g_kTup ?c ?_); (case c => walk_at "ar"); intro _ _ _ _ _)
  | with_reducible refine' Wk.g_sl ?_
  | with_reducible refine' Wk.g_noPart ?_
  | with_reducible refine' Wk.g_part ?_
  | with_reducible refine' Wk.g_kPart ?_
  | ((with_reducible refine' Wk.g_slL ?c ?_); (case c => walk_at "sq"); intro _ _ _ _ _)
  | with_reducible refine' Wk.g_test ?_
  | with_reducible refine' Wk.g_tB ?_
  | with_reducible refine' Wk.g_kTest ?_
  | with_reducible refine' Wk.g_and ?_
  | with_reducible refine' Wk.g_or ?_
  | with_reducible refine' Wk.g_not ?_
  | with_reducible refine' Wk.g_andV ?_
  | with_reducible refine' Wk.g_orV ?_
  | with_reducible refine' Wk.g_notV ?_
  | with_reducible refine' Wk.g_kNotV ?_
  | with_reducible refine' Wk.g_ifE ?_
  | with_reducible refine' Wk.g_fld ?_
  | ((with_reducible refine' Wk.g_isiI ?c ?_); (case c => first | exact Wk.k_ii | exact Wk.k_ib | exact Wk.k_ss | exact Wk.k_ns | exact Wk.k_ni | exact Wk.k_bb | exact Wk.k_ll | exact Wk.k_tt | exact Wk.k_it | exact Wk.k_nt | exact Wk.k_sb | exact Wk.k_nb))
  | ((with_reducible refine' Wk.g_isiS ?c ?_); (case c => first | exact Wk.k_ii | exact Wk.k_ib | exact Wk.k_ss | exact Wk.k_ns | exact Wk.k_ni | exact Wk.k_bb | exact Wk.k_ll | exact Wk.k_tt | exact Wk.k_it | exact Wk.k_nt | exact Wk.k_sb | exact Wk.k_nb))
  | ((with_reducible refine' Wk.g_isiB ?c ?_); (case c => first | exact Wk.k_ii | exact Wk.k_ib | exact Wk.k_ss | exact Wk.k_ns | exact Wk.k_ni | exact Wk.k_bb | exact Wk.k_ll | exact Wk.k_tt | exact Wk.k_it | exact Wk.k_nt | exact Wk.k_sb | exact Wk.k_nb))
  | ((with_reducible refine' Wk.g_isiN ?c ?_); (case c => first | exact Wk.k_ii | exact Wk.k_ib | exact Wk.k_ss | exact Wk.k_ns | exact Wk.k_ni | exact Wk.k_bb | exact Wk.k_ll | exact Wk.k_tt | exact Wk.k_it | exact Wk.k_nt | exact Wk.k_sb | exact Wk.k_nb))
  | ((with_reducible refine' Wk.g_isiL ?c1 ?c ?_); (case c1 => walk_at "get"); (case c => first | exact Wk.k_ii | exact Wk.k_ib | exact Wk.k_ss | exact Wk.k_ns | exact Wk.k_ni | exact Wk.k_bb | exact Wk.k_ll | exact Wk.k_tt | exact Wk.k_it | exact Wk.k_nt | exact Wk.k_sb | exact Wk.k_nb))
  | ((with_reducible refine' Wk.g_isiT ?c1 ?c ?_); (case c1 => walk_at "get"); (case c => first | exact Wk.k_ii | exact Wk.k_ib | exact Wk.k_ss | exact Wk.k_ns | exact Wk.k_ni | exact Wk.k_bb | exact Wk.k_ll | exact Wk.k_tt | exact Wk.k_it | exact Wk.k_nt | exact Wk.k_sb | exact Wk.k_nb))
  | with_reducible refine' Wk.g_next ?_
  | with_reducible refine' Wk.g_break ?_
  | with_reducible refine' Wk.g_cont ?_
  | with_reducible refine' Wk.g_drop ?_
  | with_reducible refine' Wk.g_ret ?_
  | with_reducible refine' Wk.g_retN ?_
  | with_reducible refine' Wk.g_if ?_
  | ((with_reducible refine' Wk.g_kIfT ?c ?_); (case c => first | assumption | rfl))
  | ((with_reducible refine' Wk.g_kIfF ?c ?_); (case c => first | assumption | rfl))
  | ((with_reducible refine' Wk.g_kAndT ?c ?_); (case c => first | assumption | rfl))
  | ((with_reducible refine' Wk.g_kAndF ?c ?_); (case c => first | assumption | rfl))
  | ((with_reducible refine' Wk.g_kOrT ?c ?_); (case c => first | assumption | rfl))
  | ((with_reducible refine' Wk.g_kOrF ?c ?_); (case c => first | assumption | rfl))
  | with_reducible refine' Wk.g_app ?_
  | ((with_reducible refine' Wk.g_kApp ?c ?_); (case c => walk_at "get"))
  | ((with_reducible refine' Wk.g_kApp2 ?c1 ?c ?_); (case c1 => walk_at "get"); (case c => walk_at "ar"); intro _ _ _)
  | with_reducible refine' Wk.g_ext ?_
  | ((with_reducible refine' Wk.g_kExt ?c ?_); (case c => walk_at "get"))
  | ((with_reducible refine' Wk.g_kExt2 ?c1 ?c2 ?c ?_); (case c1 => walk_at "get"); (case c2 => walk_at "get"); (case c => walk_at "ar"); intro _ _ _)
  | with_reducible refine' Wk.g_callS ?_
  | ((with_reducible refine' Wk.g_callL ?c ?_); (case c => rfl))
  | with_reducible refine' Wk.g_intB ?_
  | with_reducible refine' Wk.g_intI ?_
  | with_reducible refine' Wk.g_tryAs ?_
  | with_reducible refine' Wk.g_tryOnly ?_
  | with_reducible refine' Wk.g_tryMany ?_
  | with_reducible refine' Wk.g_chain ?_
  | with_reducible refine' Wk.g_lcT ?_
  | with_reducible refine' Wk.g_forV ?_
  | ((with_reducible refine' Wk.g_sum ?c ?_); (case c => walk_at "sq"))
  | with_reducible refine' Wk.g_forL ?_
  | with_reducible refine' Wk.g_forR ?_
  | with_reducible refine' Wk.g_lcL ?_
  | with_reducible refine' Wk.g_sub ?_
  | with_reducible refine' Wk.g_make ?_
  | with_reducible refine' Wk.g_lcR ?_
  | with_reducible refine' Wk.g_m1 ?_
  | with_reducible refine' Wk.g_kM1 ?_)
local macro_rules | `(tactic| walk_at "cl") => `(tactic| (try dsimp only [List.map, L2.wipe, List.set]))
local macro_rules | `(tactic| walk_at "go") => `(tactic| (repeat walk_at "wk"))
theorem ok_Line_init {C fI : Addr} (L : LineC K mg C fI) (D : MetAt K "__init__" "Line.__init__" s_Line_init fI) : Rm P w K mg base CX0 1 fI ["self", "cuts", "holds"] (sp_Line_init C) := by
  refine D.ok sc_Line_init (fun _ _ _ _ _ _ us hl => match us, hl with | [_, _, _], _ => rfl) (fun vs H Q E h => ?_) (fun cdv A outer s H vs Q E hr h => ?_)
  · obtain ⟨p, dx, lc, lh, rfl, _⟩ := h
    rfl
  · obtain ⟨p, dx, lc, lh, rfl, hp, q⟩ := h
    refine ⟨_, (pss_cons (ps_fld (pv 0) (pv 1) rfl)
 (pss_one (ps_fld (pv 0) (pv 2) rfl))), ?_⟩
    refine ⟨_, rfl, _, rfl, p, C, dx, [], rfl, hp, L.cl, L.nC, (by show 0 < 1000; decide), ?_⟩
    refine ⟨_, rfl, _, rfl, p, C, dx, _, rfl, upd_same, L.cl, L.nH, (by show 1 < 1000; decide), ?_⟩
    show Q .non _
    rw [upd_upd, lf_put]
    exact q

theorem ok_line_of {C fI : Addr} (B : Bt mg) (L : LineC K mg C fI) (R_Line_init : Rm P w K mg base CX0 1 fI ["self", "cuts", "holds"] (sp_Line_init C)) (D : DefAt K mg "line_of" s_line_of) : Rd P w K mg base CX0 3 "line_of" ["cuts", "holds"] (sp_line_of K C) := by
  refine D.ok sc_line_of (fun _ _ _ _ _ _ us hl => match us, hl with | [_, _], _ => rfl) (fun vs H Q E h => ?_) (fun f cdv A outer s H vs Q E hr h => ?_)
  · obtain ⟨a, b, v, ps, eq, rfl, _⟩ := h
    rfl
  · obtain ⟨a, b, v, ps, eq, rfl, hA, hB, hn, hne, q⟩ := h
    refine ⟨_, (pss_cons (ps_set (i := 2) sc_line_of.nd rfl (by first | exact Or.inl rfl | exact Or.inr rfl) (pe_lst pa_nil))
 (pss_cons (ps_set (i := 3) sc_line_of.nd rfl (by first | exact Or.inl rfl | exact Or.inr rfl) (pe_lst (pa_cons (pe_ix ix_seq (pv 1) pe_int (fun _ _ => rfl)) pa_nil)))
 (pss_cons (ps_for PassesOwn.never rfl (pi_range1 (by rfl) B.range (pa_cons (pe_callB call_lenA (by rfl) B.len (by decide +kernel) (pa_cons (pv 0) pa_nil)) pa_nil)) (pg_name (i := 4) sc_line_of.nd rfl (by first | exact Or.inl rfl | exact Or.inr rfl)) (pss_cons (ps_set (i := 5) sc_line_of.nd rfl (by first | exact Or.inl rfl | exact Or.inr rfl) (pe_and (pe_cmpR op_lt (pe_op op_addA (pv 4) pe_int) (pe_callB call_lenA (by rfl) B.len (by decide +kernel) (pa_cons (pv 0) pa_nil)) (nomark _)) (pe_one (pe_cmpR (op_eqA hr.units) (pe_ix ix_seq (pv 0) (pe_op op_addA (pv 4) pe_int) (fun _ _ => rfl)) (pe_ix ix_seq (pv 0) (pv 4) (fun _ _ => rfl)) (nomark _)))))
 (pss_one (ps_if (PW.pt (pw_and (pt_not (pt_val (pv 5))) (pw_and1 (pt_cmpR (op_neA hr.units) (pe_ix ix_seq (pv 1) (pe_op op_addA (pv 4) pe_int) (fun _ _ => rfl)) (pe_ix ix_seq (pv 3) (pe_un un_neg pe_int) (fun _ _ => rfl)) (nomark _))))) (pss_cons (ps_expr (pe_bm PySem.F.plainAttrs_list PySem.F.slot_list_append PySem.F.type_list_append mt_append (pv 2) (pa_cons (pe_ix ix_seq (pv 0) (pv 4) (fun _ _ => rfl)) pa_nil)))
 (pss_one (ps_expr (pe_bm PySem.F.plainAttrs_list PySem.F.slot_list_append PySem.F.type_list_append mt_append (pv 3) (pa_cons (pe_ix ix_seq (pv 1) (pe_op op_addA (pv 4) pe_int) (fun _ _ => rfl)) pa_nil))))) pss_nil))))
 (pss_one (ps_ret (pe_makeR L.made R_Line_init (hr.mono (by decide)) rfl L.mgC pass0 (pa_cons (pv 2) (pa_cons (pv 3) pa_nil)))))))), ?_⟩
    change Wk.go _ _ [_, _, none, none, none, none] H
    (try dsimp only [Wk.cxK, Wk.cxKn, Wk.cxW, Wk.cxWn, Wk.cxP, Wk.cxPn])
    have h0 : (holds v ps)[0]? = some v := rfl
    walk_at "go"
    rename_i p1 H1 n1 s1 e1 p2 H2 n2 s2 e2
    have n12 : p1 ≠ p2 := ne_of_none e1 n2
    have f2 : H p2 = none := fresh_back s1 n2
    have s02 : Same H H2 := Same.via s1 s2
    have hlen : ((cuts ps).map V.int).length = ps.length := by rw [List.length_map, List.length_map]
    refine Wk.g_kForR (n := ps.length) (by rw [hlen]) (by omega)
      (fun i σ' H' => ∃ (y4 y5 : Option V) (acc : List (Int × V)) (last : V), σ' = [some (.ref a), some (.ref b), some (.ref p1), some (.ref p2), y4, y5] ∧ Same H H' ∧ H' p1 = some (.lst ((cuts acc).map V.int)) ∧ H' p2 = some (.lst (holds v acc)) ∧
        (holds v acc)[acc.length]? = some last ∧ last ∈ holds v ps ∧ acc.length ≤ i ∧ acc ++ keepB eq last (ps.drop i) = keepB eq v ps)
      ⟨none, none, [], v, rfl, s02, s2 _ _ e1, e2, rfl, List.mem_cons_self, Nat.zero_le _, rfl⟩ (fun i σ' H' hi hP => ?_) (fun σ' H' hP => ?_)
    · obtain ⟨y4, y5, acc, last, rfl, sH, ec, eh, hlast, hmem, hacc, hk⟩ := hP
      obtain ⟨⟨c, h⟩, hp⟩ : ∃ p, ps[i]? = some p := ⟨_, List.getElem?_eq_getElem hi⟩
      have hdrop := drop_at hp
      have hc : ((cuts ps).map V.int)[i]? = some (.int c) := by rw [List.getElem?_map, List.getElem?_map, hp] <;> rfl
      have hh : (holds v ps)[i + 1]? = some h := hold_at hp
      have hhm : h ∈ holds v ps := List.mem_of_getElem? hh
      have hl1 : atI (holds v acc) (-1) = some last := by
        rw [last_hold hlast]
        exact atI_last _ _
      walk_at "go"
      refine Wk.g_kAndVm (dup c (ps.drop (i + 1))) (fun hb Q' q' => ?_) (fun hb => ?_) (fun H3 s3 => ?_)
      · have hb := of_decide_eq_true hb
        have hi2 : i + 1 < ps.length := by omega
        obtain ⟨⟨d, g⟩, hq⟩ : ∃ p, ps[i + 1]? = some p := ⟨_, List.getElem?_eq_getElem hi2⟩
        have hd : ((cuts ps).map V.int)[i + 1]? = some (.int d) := by rw [List.getElem?_map, List.getElem?_map, hq] <;> rfl
        walk_at "go"
        rw [drop_at hq] at q'
        exact q' _ (Same.refl _)
      · have hb := of_decide_eq_false hb
        rw [List.drop_eq_nil_of_le (by omega)]
        rfl
      walk_at "go"
      have hnl := hne h hhm last hmem
      refine Wk.g_kAndm (!dup c (ps.drop (i + 1)) && !eq h last) (fun hb Q' q' => ?_) (fun hb => by rw [hb]; rfl) (fun H4 s4 => ?_)
      · walk_at "go"
        refine hnl _ (Same.via sH s3) _ ?_
        walk_at "go"
        rw [hb] at q'
        exact q' _ (Same.refl _)
      have s34 := Same.via s3 s4
      have e1' := s34 _ _ ec
      have e2' := s34 _ _ eh
      have sH4 := Same.via sH s34
      rw [hdrop, keepB] at hk
      refine Wk.g_kIf (fun hb => ?_) (fun hb => ?_)
      · have hb1 : dup c (ps.drop (i + 1)) = false := by cases hq : dup c (ps.drop (i + 1)) <;> simp [hq] at hb ⊢
        have hb2 : eq h last = false := by cases hq : eq h last <;> simp [hq] at hb ⊢
        rw [hb1, if_neg Bool.false_ne_true, hb2, if_neg Bool.false_ne_true] at hk
        walk_at "go"
        rename_i H5 m5 e5 H6 m6 e6
        refine ⟨_, _, acc ++ [(c, h)], h, rfl, Wk.Same.mutd (Wk.Same.mutd sH4 m5 n1) m6 f2, ?_, ?_, ?_, hhm, by rw [List.length_append, List.length_singleton]; omega, by rw [List.append_assoc]; exact hk⟩
        · rw [m6 p1 n12, e5, cuts_app, List.map_append] <;> rfl
        · rw [e6, holds_app]
        · rw [holds_app, List.getElem?_append_right (by simp [holds]), List.length_append, List.length_singleton] <;> simp [holds]
      · have hk2 : acc ++ keepB eq last (ps.drop (i + 1)) = keepB eq v ps := by
          cases hq : dup c (ps.drop (i + 1)) with
          | true => rw [hq, if_pos rfl] at hk; exact hk
          | false =>
            rw [hq, if_neg Bool.false_ne_true] at hk
            have hb2 : eq h last = true := by rw [hq] at hb; cases hq2 : eq h last <;> simp [hq2] at hb ⊢
            rw [hb2, if_pos rfl] at hk
            exact hk
        walk_at "go"
        exact ⟨_, _, acc, last, rfl, sH4, e1', e2', hlast, hmem, by omega, hk2⟩
    · obtain ⟨y4, y5, acc, last, rfl, sH, ec, eh, hlast, hmem, hacc, hk⟩ := hP
      rw [List.drop_length, keepB, List.append_nil] at hk
      walk_at "go"
      refine g_Line C ec eh fun H3 p dx hp s3 hl => ?_
      subst hk
      exact q H3 p (Wk.fresh_back sH hp) (Same.via sH s3) ⟨dx, p1, p2, n1, f2, hl, s3 _ _ ec, s3 _ _ eh⟩

theorem ok_empty_line {C fI : Addr} (B : Bt mg) (L : LineC K mg C fI) (R_Line_init : Rm P w K mg base CX0 1 fI ["self", "cuts", "holds"] (sp_Line_init C)) (D : DefAt K mg "empty_line" s_empty_line) : Rd P w K mg base CX0 3 "empty_line" [] (sp_empty_line C) := by
  refine D.ok sc_empty_line (fun _ _ _ _ _ _ us hl => match us, hl with | [], _ => rfl) (fun vs H Q E h => ?_) (fun f cdv A outer s H vs Q E hr h => ?_)
  · obtain ⟨rfl, _⟩ := h
    rfl
  · obtain ⟨rfl, q⟩ := h
    refine ⟨_, (pss_one (ps_ret (pe_makeR L.made R_Line_init (hr.mono (by decide)) rfl L.mgC pass0 (pa_cons (pe_lst pa_nil) (pa_cons (pe_lst (pa_cons pe_non pa_nil)) pa_nil))))), ?_⟩
    change Wk.go _ _ [] H
    (try dsimp only [Wk.cxK, Wk.cxKn, Wk.cxW, Wk.cxWn, Wk.cxP, Wk.cxPn])
    walk_at "go"
    rename_i p1 H1 n1 s1 e1 p2 H2 n2 s2 e2
    refine g_Line C (cs := []) (s2 _ _ e1) e2 fun H3 p dx hp s3 hl => ?_
    exact q H3 p (Wk.fresh_back (Same.via s1 s2) hp) (Same.via s1 (Same.via s2 s3)) ⟨dx, p1, p2, hl, s3 _ _ (s2 _ _ e1), s3 _ _ e2⟩

theorem ok_value_at {C fI : Addr} (B : Bt mg) (L : LineC K mg C fI) (D : DefAt K mg "value_at" s_value_at) : Rd P w K mg base CX0 1 "value_at" ["line", "place"] (sp_value_at C) := by
  refine D.ok sc_value_at (fun _ _ _ _ _ _ us hl => match us, hl with | [_, _], _ => rfl) (fun vs H Q E h => ?_) (fun f cdv A outer s H vs Q E hr h => ?_)
  · obtain ⟨p, v, ps, x, rfl, _⟩ := h
    rfl
  · obtain ⟨p, v, ps, x, rfl, hL, hs, q⟩ := h
    refine ⟨_, (pss_cons (ps_set (i := 2) sc_value_at.nd rfl (by first | exact Or.inl rfl | exact Or.inr rfl) pe_int)
 (pss_cons (ps_for PassesOwn.never rfl (pi_list (pe_fld (pv 0) rfl)) (pg_name (i := 3) sc_value_at.nd rfl (by first | exact Or.inl rfl | exact Or.inr rfl)) (pss_one (ps_if (pt_cmpR op_le (pv 3) (pv 1) (nomark _)) (pss_one (ps_set (i := 2) sc_value_at.nd rfl (by first | exact Or.inl rfl | exact Or.inr rfl) (pe_op op_addA (pv 2) pe_int))) pss_nil)))
 (pss_one (ps_ret (pe_ix ix_seq (pe_fld (pv 0) rfl) (pv 2) (fun _ _ => rfl)))))), ?_⟩
    change Wk.go _ _ [_, _, none, none] H
    (try dsimp only [Wk.cxK, Wk.cxKn, Wk.cxW, Wk.cxWn, Wk.cxP, Wk.cxPn])
    obtain ⟨dx, lc, lh, hi, hlc, hlh⟩ := id hL
    walk_at "go"
    refine ⟨p, C, dx, _, _, rfl, hi, L.cl, L.nC, lf_cuts _ _, ?_⟩
    refine Wk.g_kForL (SqL.of hlc)
      (fun i σ' H' => ∃ (y3 : Option V), σ' = [some (.ref p), some (.int x), some (.int (((cuts ps).take i).countP fun c => decide (c ≤ x) : Nat)), y3] ∧ Same H H')
      ⟨none, rfl, Same.refl _⟩ (fun i σ' H' hP => ?_) (fun i y σ' H' hy hP => ?_) (fun σ' H' hP => ?_)
    · obtain ⟨_, _, sH⟩ := hP
      exact SqL.of (sH _ _ hlc)
    · obtain ⟨y3, rfl, sH⟩ := hP
      obtain ⟨c, hc, rfl⟩ := int_at hy
      have e : (cuts ps).take (i + 1) = (cuts ps).take i ++ [c] := by rw [List.take_add_one, hc] <;> rfl
      walk_at "go"
      refine Wk.g_kIf (fun hb => ?_) (fun hb => ?_)
      · walk_at "go"
        refine ⟨some (.int c), ?_, sH⟩
        rw [e, List.countP_append, List.countP_singleton, if_pos hb] <;> rfl
      · walk_at "go"
        refine ⟨some (.int c), ?_, sH⟩
        rw [e, List.countP_append, List.countP_singleton, if_neg (by rw [hb]; exact Bool.false_ne_true)] <;> rfl
    · obtain ⟨y3, rfl, sH⟩ := hP
      rw [List.length_map, List.take_length]
      have hcount := at_count (v := v) (x := x) hs
      have hlh' := sH _ _ hlh
      walk_at "go"
      refine ⟨p, C, dx, _, _, rfl, sH _ _ hi, L.cl, L.nH, lf_holds _ _, ?_⟩
      walk_at "go"
      exact q _ sH

theorem ok_behind {C fI : Addr} (B : Bt mg) (L : LineC K mg C fI) (D : DefAt K mg "behind" s_behind) : Rd P w K mg base CX0 1 "behind" ["line", "place"] (sp_behind C) := by
  refine D.ok sc_behind (fun _ _ _ _ _ _ us hl => match us, hl with | [_, _], _ => rfl) (fun vs H Q E h => ?_) (fun f cdv A outer s H vs Q E hr h => ?_)
  · obtain ⟨p, v, ps, x, rfl, _⟩ := h
    rfl
  · obtain ⟨p, v, ps, x, rfl, hL, hs, hn, q⟩ := h
    refine ⟨_, (pss_cons (ps_setLc (i := 2) (own := [("cut", 3)]) (g := gName 3) (by rfl) sc_behind.nd rfl rfl (sw_true rfl rfl rfl (by decide +kernel)) (pi_list (pe_fld (pv 0) rfl)) (blkOk_by (own := [("cut", 3)]) (N := N_behind) (sc := defScope s_behind) (by decide +kernel)) (fun _ _ _ _ _ => pg_name (i := 3) sc_behind.nd rfl (by first | exact Or.inl rfl | exact Or.inr rfl)) (fun _ _ _ _ _ => (pts_one (pt_cmpR op_gt (pv 3) (pv 1) (nomark _)))) (fun _ _ _ _ _ => (pv 3)))
 (pss_one (ps_ret (pe_tup (pa_cons (pv 2) (pa_cons (pe_slice sl_list (pe_fld (pv 0) rfl) (po_some (pe_op op_sub (pe_callB call_lenA (by rfl) B.len (by decide +kernel) (pa_cons (pe_fld (pv 0) rfl) pa_nil)) (pe_callB call_lenA (by rfl) B.len (by decide +kernel) (pa_cons (pv 2) pa_nil)))) po_none) pa_nil)))))), ?_⟩
    change Wk.go _ _ [_, _, none, none] H
    (try dsimp only [Wk.cxK, Wk.cxKn, Wk.cxW, Wk.cxWn, Wk.cxP, Wk.cxPn])
    obtain ⟨dx, lc, lh, hi', hlc, hlh⟩ := id hL
    walk_at "go"
    refine ⟨p, C, dx, _, _, rfl, hi', L.cl, L.nC, lf_cuts _ _, ?_⟩
    refine Wk.g_kLcLIF (fun c => decide (x < c)) id (SqL.of hlc) (by rw [List.length_map]; omega) (by intro _; rfl) (fun i c H' Q' hc sm qq => ?_) (fun i c H' Q' hc hb sm qq => ?_) (fun a H1 na s1 ha => ?_)
    · walk_at "cl"
      walk_at "go"
      exact qq _ (Same.refl _)
    · walk_at "cl"
      walk_at "go"
      exact qq _ (Same.refl _)
    rw [List.map_id, ← cuts_hi] at ha
    have hl1 := s1 _ _ hlh
    have hi1 := s1 _ _ hi'
    walk_at "go"
    refine ⟨p, C, dx, _, _, rfl, hi1, L.cl, L.nH, lf_holds _ _, ?_⟩
    walk_at "go"
    refine ⟨p, C, dx, _, _, rfl, hi1, L.cl, L.nH, lf_holds _ _, ?_⟩
    walk_at "go"
    rename_i b H2 nb s2 hb t H3 nt s3 ht
    have e : cutV (holds v ps) (some (((holds v ps).length : Int) - (((cuts (hi x ps)).map V.int).length : Int))) none = (hi x ps).map (·.2) := by
      have l1 : (holds v ps).length = ps.length + 1 := by simp [holds]
      have l2 := len_hi (ps := ps) (x := x)
      rw [List.length_map, List.length_map, l1, cutFrom (n := ps.length + 1 - (hi x ps).length) (by omega)]
      have l3 : ps.length + 1 - (hi x ps).length = (ps.length - (hi x ps).length) + 1 := by omega
      rw [l3]
      show (ps.map (·.2)).drop _ = _
      conv => rhs; rw [hi_drop hs x]
      rw [List.map_drop]
    rw [e] at hb
    exact q H3 t a b (Wk.fresh_back (Same.via s1 s2) nt) na (Wk.fresh_back s1 nb) (Same.via s1 (Same.via s2 s3)) ht (s3 _ _ (s2 _ _ ha)) (s3 _ _ hb)

theorem ok_ahead {C fI : Addr} (B : Bt mg) (L : LineC K mg C fI) (D : DefAt K mg "ahead" s_ahead) : Rd P w K mg base CX0 1 "ahead" ["line", "place"] (sp_ahead C) := by
  refine D.ok sc_ahead (fun _ _ _ _ _ _ us hl => match us, hl with | [_, _], _ => rfl) (fun vs H Q E h => ?_) (fun f cdv A outer s H vs Q E hr h => ?_)
  · obtain ⟨p, v, ps, x, rfl, _⟩ := h
    rfl
  · obtain ⟨p, v, ps, x, rfl, hL, hs, hn, q⟩ := h
    refine ⟨_, (pss_cons (ps_setLc (i := 2) (own := [("cut", 3)]) (g := gName 3) (by rfl) sc_ahead.nd rfl rfl (sw_true rfl rfl rfl (by decide +kernel)) (pi_list (pe_fld (pv 0) rfl)) (blkOk_by (own := [("cut", 3)]) (N := N_ahead) (sc := defScope s_ahead) (by decide +kernel)) (fun _ _ _ _ _ => pg_name (i := 3) sc_ahead.nd rfl (by first | exact Or.inl rfl | exact Or.inr rfl)) (fun _ _ _ _ _ => (pts_one (pt_cmpR op_lt (pv 3) (pv 1) (nomark _)))) (fun _ _ _ _ _ => (pv 3)))
 (pss_one (ps_ret (pe_tup (pa_cons (pv 2) (pa_cons (pe_slice sl_list (pe_fld (pv 0) rfl) po_none (po_some (pe_op op_addA (pe_callB call_lenA (by rfl) B.len (by decide +kernel) (pa_cons (pv 2) pa_nil)) pe_int))) pa_nil)))))), ?_⟩
    change Wk.go _ _ [_, _, none, none] H
    (try dsimp only [Wk.cxK, Wk.cxKn, Wk.cxW, Wk.cxWn, Wk.cxP, Wk.cxPn])
    obtain ⟨dx, lc, lh, hi', hlc, hlh⟩ := id hL
    walk_at "go"
    refine ⟨p, C, dx, _, _, rfl, hi', L.cl, L.nC, lf_cuts _ _, ?_⟩
    refine Wk.g_kLcLIF (fun c => decide (c < x)) id (SqL.of hlc) (by rw [List.length_map]; omega) (by intro _; rfl) (fun i c H' Q' hc sm qq => ?_) (fun i c H' Q' hc hb sm qq => ?_) (fun a H1 na s1 ha => ?_)
    · walk_at "cl"
      walk_at "go"
      exact qq _ (Same.refl _)
    · walk_at "cl"
      walk_at "go"
      exact qq _ (Same.refl _)
    rw [List.map_id, ← cuts_lo] at ha
    have hl1 := s1 _ _ hlh
    have hi1 := s1 _ _ hi'
    walk_at "go"
    refine ⟨p, C, dx, _, _, rfl, hi1, L.cl, L.nH, lf_holds _ _, ?_⟩
    walk_at "go"
    rename_i b H2 nb s2 hb t H3 nt s3 ht
    have e : cutV (holds v ps) none (some ((((cuts (lo x ps)).map V.int).length : Int) + 1)) = holds v (lo x ps) := by
      rw [List.length_map, List.length_map, cutTo (n := (lo x ps).length + 1) (by omega)]
      show v :: (ps.map (·.2)).take _ = _
      conv => rhs; rw [lo_take hs x]
      rw [← List.map_take]
    rw [e] at hb
    exact q H3 t a b (Wk.fresh_back (Same.via s1 s2) nt) na (Wk.fresh_back s1 nb) (Same.via s1 (Same.via s2 s3)) ht (s3 _ _ (s2 _ _ ha)) (s3 _ _ hb)

theorem ok_end_of_run {C fI : Addr} (B : Bt mg) (L : LineC K mg C fI) (R_behind : Rd P w K mg base CX0 1 "behind" ["line", "place"] (sp_behind C)) (D : DefAt K mg "end_of_run" s_end_of_run) : Rd P w K mg base CX0 2 "end_of_run" ["line", "place"] (sp_end_of_run C) := by
  refine D.ok sc_end_of_run (fun _ _ _ _ _ _ us hl => match us, hl with | [_, _], _ => rfl) (fun vs H Q E h => ?_) (fun f cdv A outer s H vs Q E hr h => ?_)
  · obtain ⟨p, v, ps, x, rfl, _⟩ := h
    rfl
  · obtain ⟨p, v, ps, x, rfl, hL, hs, hn, q⟩ := h
    refine ⟨_, (pss_cons (ps_set (i := 2) sc_end_of_run.nd rfl (by first | exact Or.inl rfl | exact Or.inr rfl) (pe_ix ix_seq (pe_callR R_behind (hr.mono (by decide)) rfl pass0 (pa_cons (pv 0) (pa_cons (pv 1) pa_nil))) pe_int (fun _ _ => rfl)))
 (pss_cons (ps_if (pt_cmpR (op_eqA hr.units) (pv 2) (pe_lst pa_nil) (nomark _)) (pss_one (ps_ret pe_non)) pss_nil)
 (pss_one (ps_ret (pe_ix ix_seq (pv 2) pe_int (fun _ _ => rfl)))))), ?_⟩
    change Wk.go _ _ [_, _, none] H
    (try dsimp only [Wk.cxK, Wk.cxKn, Wk.cxW, Wk.cxWn, Wk.cxP, Wk.cxPn])
    walk_at "go"
    refine ⟨p, v, ps, x, rfl, hL, hs, hn, fun H1 t a b nt na nb s1 ht ha hb => ?_⟩
    walk_at "go"
    rename_i z H2 n2 s2 e2
    have ha2 := s2 _ _ ha
    refine Wk.g_eqD (d := .list ((cuts (hi x ps)).map .int)) (e := .list (([] : List Int).map .int)) (dp_ints (SqL.of ha2)) (.lst (SqL.of e2) .nil) ((sh_lints _).ok (by decide)) ((sh_lints _).ok (by decide)) ?_
    rw [eqv_list, eqva_ints]
    walk_at "go"
    have s02 := Same.via s1 s2
    refine Wk.g_kIf (fun hz => ?_) (fun hz => ?_)
    · have hz := of_decide_eq_true hz
      have e : nextCut ps x = none := by rw [nextCut, hz] <;> rfl
      rw [e] at q
      walk_at "go"
      exact q _ s02
    · have hz := of_decide_eq_false hz
      obtain ⟨c, r, hc⟩ : ∃ c r, cuts (hi x ps) = c :: r := by
        cases h : cuts (hi x ps) with
        | nil => exact absurd h hz
        | cons c r => exact ⟨c, r, rfl⟩
      have e : nextCut ps x = some c := by rw [nextCut, hc] <;> rfl
      rw [e] at q
      have h0 : ((cuts (hi x ps)).map V.int)[0]? = some (.int c) := by rw [hc] <;> rfl
      walk_at "go"
      exact q _ s02

theorem ok_runs {C fI : Addr} (B : Bt mg) (L : LineC K mg C fI) (R_end_of_run : Rd P w K mg base CX0 2 "end_of_run" ["line", "place"] (sp_end_of_run C)) (R_value_at : Rd P w K mg base CX0 1 "value_at" ["line", "place"] (sp_value_at C)) (D : DefAt K mg "runs" s_runs) : Rd P w K mg base CX0 3 "runs" ["line", "start", "end"] (sp_runs C) := by
  refine D.ok sc_runs (fun _ _ _ _ _ _ us hl => match us, hl with | [_, _, _], _ => rfl) (fun vs H Q E h => ?_) (fun f cdv A outer s H vs Q E hr h => ?_)
  · obtain ⟨p, v, ps, s, e, rfl, _⟩ := h
    rfl
  · obtain ⟨p, v, ps, st, en, rfl, hL, hri, hnr, hn, q⟩ := h
    refine ⟨_, (pss_cons (ps_set (i := 3) sc_runs.nd rfl (by first | exact Or.inl rfl | exact Or.inr rfl) (pe_lst pa_nil))
 (pss_cons (ps_set (i := 4) sc_runs.nd rfl (by first | exact Or.inl rfl | exact Or.inr rfl) (pv 1))
 (pss_cons (ps_while PassesOwn.never (pt_cmpR op_lt (pv 4) (pv 2) (nomark _)) (pss_cons (ps_set (i := 5) sc_runs.nd rfl (by first | exact Or.inl rfl | exact Or.inr rfl) (pe_callR R_end_of_run (hr.mono (by decide)) rfl pass0 (pa_cons (pv 0) (pa_cons (pv 4) pa_nil))))
 (pss_cons (ps_if (PW.pt (pw_or (pt_cmpR op_isN' (pv 5) pe_non (nomark _)) (pw_or1 (pt_cmpR op_gt (pv 5) (pv 2) (nomark _))))) (pss_one (ps_set (i := 5) sc_runs.nd rfl (by first | exact Or.inl rfl | exact Or.inr rfl) (pv 2))) pss_nil)
 (pss_cons (ps_expr (pe_bm PySem.F.plainAttrs_list PySem.F.slot_list_append PySem.F.type_list_append mt_append (pv 3) (pa_cons (pe_tup (pa_cons (pv 4) (pa_cons (pv 5) (pa_cons (pe_callR R_value_at (hr.mono (by decide)) rfl pass0 (pa_cons (pv 0) (pa_cons (pv 4) pa_nil))) pa_nil)))) pa_nil)))
 (pss_one (ps_set (i := 4) sc_runs.nd rfl (by first | exact Or.inl rfl | exact Or.inr rfl) (pv 5)))))))
 (pss_one (ps_ret (pv 3)))))), ?_⟩
    change Wk.go _ _ [_, _, _, none, none, none] H
    (try dsimp only [Wk.cxK, Wk.cxKn, Wk.cxW, Wk.cxWn, Wk.cxP, Wk.cxPn])
    walk_at "go"
    rename_i z H1 n1 s1 e1
    refine Wk.g_while (fun m σ' H' => ∃ (y : Int) (y5 : Option V) (R : List Run), σ' = [some (.ref p), some (.int st), some (.int en), some (.ref z), some (.int y), y5] ∧ Same H H' ∧ RunsAt H' z R.reverse ∧
        Rv (at_ v ps) st y R ∧ (y = st ∨ y ≤ en) ∧ (R ≠ [] → y < en → at_ v ps y ≠ at_ v ps (y - 1)) ∧ m = (if y < en then (hi y ps).length + 1 else 0) ∧ R.length + m ≤ ps.length + 1) _
      ⟨st, none, [], rfl, s1, TupsAt.nil e1, rfl, .inl rfl, fun h => absurd rfl h, rfl, by
        have := len_hi (ps := ps) (x := st)
        split <;> simp only [List.length_nil] <;> omega⟩ (fun m σ' H' hP => ?_)
    obtain ⟨y, y5, R, rfl, sH, hR, hv, hy, hch, hm, hlen⟩ := hP
    walk_at "go"
    refine Wk.g_kW (fun hb N hN => ?_) (fun hb => ?_)
    · have hb := of_decide_eq_true hb
      rw [if_pos hb] at hm
      walk_at "go"
      refine ⟨p, v, ps, y, rfl, hL.same sH, hri.srt, hn, fun H2 s2 => ?_⟩
      -- where the run ends
      obtain ⟨u, hu1, hu2, hu3, hu4, hu5⟩ : ∃ u : Int, y < u ∧ u ≤ en ∧ (∀ x, y ≤ x → x < u → at_ v ps x = at_ v ps y) ∧ (u < en → at_ v ps u ≠ at_ v ps (u - 1) ∧ (hi u ps).length < (hi y ps).length) ∧ u = (match nextCut ps y with | none => en | some c => if c > en then en else c) := by
        cases hc : nextCut ps y with
        | none => exact ⟨en, hb, Int.le_refl _, fun x hx _ => next_none hc hx, fun h => absurd h (Int.lt_irrefl _), rfl⟩
        | some c =>
          obtain ⟨a1, a2, a3⟩ := next_some hri hnr hc
          by_cases hce : c > en
          · exact ⟨en, hb, Int.le_refl _, fun x hx hx2 => a2 x hx (by omega), fun h => absurd h (Int.lt_irrefl _), (if_pos hce).symm⟩
          · exact ⟨c, a1, by omega, a2, fun _ => ⟨by rw [a2 (c - 1) (by omega) (by omega)]; exact a3, hi_next hc⟩, (if_neg hce).symm⟩
      have hR2 := hR.same s2
      have s02 := Same.via sH s2
      walk_at "go"
      refine Wk.g_kOrJ (fun σ' H' => σ' = [some (.ref p), some (.int st), some (.int en), some (.ref z), some (.int y), some (.int u)] ∧ Same H2 H') (fun N' hN' => ?_) (fun σ' H3 hP => ?_)
      · cases hc : nextCut ps y with
        | none =>
          rw [hc] at hu5
          have hu5 : u = en := hu5
          refine Wk.g_kOrT rfl ?_
          walk_at "go"
          exact hN' _ _ ⟨by rw [hu5], Same.refl _⟩
        | some c =>
          rw [hc] at hu5
          have hu5 : u = if c > en then en else c := hu5
          refine Wk.g_kOrF rfl ?_
          simp only [optV]
          walk_at "go"
          refine Wk.g_kIf (fun hb => ?_) (fun hb => ?_)
          · rw [if_pos (of_decide_eq_true hb)] at hu5
            walk_at "go"
            exact hN' _ _ ⟨by rw [hu5], Same.refl _⟩
          · rw [if_neg (of_decide_eq_false hb)] at hu5
            walk_at "go"
            exact hN' _ _ ⟨by rw [hu5], Same.refl _⟩
      obtain ⟨rfl, s3⟩ := hP
      obtain ⟨as, ha, hal, hall⟩ := id (hR2.same s3)
      rw [List.length_map, List.length_reverse] at hal
      walk_at "go"
      refine ⟨p, v, ps, y, rfl, hL.same (Same.via s02 s3), hri.srt, fun H4 s4 => ?_⟩
      have ha4 := s4 _ _ ha
      have halb : (as.map V.ref).length < 100000 := by rw [List.length_map]; omega
      walk_at "go"
      rename_i b H5 n5 s5 e5 H6 m6 e6
      have hz5 := s5 _ _ ha4
      have hbz : b ≠ z := (ne_of_none ha4 n5).symm
      have s06 : Same H H6 := Wk.Same.mutd (Same.via s02 (Same.via s3 (Same.via s4 s5))) m6 n1
      have hm' : (if u < en then (hi u ps).length + 1 else 0) < m := by
        by_cases huz : u < en
        · rw [if_pos huz]
          have := (hu4 huz).2
          omega
        · rw [if_neg huz]
          omega
      refine hN _ _ _ hm' ⟨u, _, (y, u, at_ v ps y) :: R, rfl, s06, ?_, rv_snoc hv hu1 hu3 fun h => hch h hb, .inr hu2, fun _ h => (hu4 h).1, rfl, by rw [List.length_cons]; omega⟩
      show TupsAt H6 z (((y, u, at_ v ps y) :: R).reverse.map runT)
      rw [List.reverse_cons, List.map_append]
      refine TupsAt.push (by rw [List.length_map, List.length_reverse]; exact hal) (fun i c x e1 e2 => ?_) e6 (by rw [m6 b hbz]; exact e5)
      have h3 := hall i c x e1 e2
      have h4 := s5 _ _ (s4 _ _ h3)
      rw [m6 c (fun hcz => by rw [hcz, hz5] at h4; cases h4)]
      exact h4
    · have hb := of_decide_eq_false hb
      walk_at "go"
      refine q H' z R (n1) sH hR ?_ (by omega)
      unfold RunsOf
      by_cases hse : en ≤ st
      · rw [if_pos hse]
        have hge := rv_ge hv
        have hyst : y = st := by omega
        cases R with
        | nil => rfl
        | cons r R' =>
          have hlt := (rv_last hv).1
          omega
      · rw [if_neg hse]
        have : y = en := by omega
        rw [← this]
        exact hv

theorem ok_tally {C fI : Addr} (B : Bt mg) (L : LineC K mg C fI) (R_runs : Rd P w K mg base CX0 3 "runs" ["line", "start", "end"] (sp_runs C)) (D : DefAt K mg "tally" s_tally) : Rd P w K mg base CX0 4 "tally" ["line", "value", "start", "end"] (sp_tally C) := by
  refine D.ok sc_tally (fun _ _ _ _ _ _ us hl => match us, hl with | [_, _, _, _], _ => rfl) (fun vs H Q E h => ?_) (fun f cdv A outer s H vs Q E hr h => ?_)
  · obtain ⟨p, v, ps, s, e, u, rfl, _⟩ := h
    rfl
  · obtain ⟨p, v, ps, st, en, u, rfl, hL, hri, hnr, hn, hf, hu, q⟩ := h
    refine ⟨_, (pss_one (ps_ret (pe_callB (cr_sum rfl) (by rfl) B.sum (by decide +kernel) (pa_cons (pe_lc (own := [("run", 4)]) (g := gName 4) (by rfl) sc_tally.nd (pi_list (pe_callR R_runs (hr.mono (by decide)) rfl pass0 (pa_cons (pv 0) (pa_cons (pv 2) (pa_cons (pv 3) pa_nil))))) (blkOk_by (own := [("run", 4)]) (N := N_tally) (sc := defScope s_tally) (by decide +kernel)) (fun _ _ _ _ _ => pg_name (i := 4) sc_tally.nd rfl (by first | exact Or.inl rfl | exact Or.inr rfl)) (fun _ _ _ _ _ => (pts_one (pt_cmpR (op_eqK (K := K) rfl hr.units) (pe_ix (ix_seqK (K := K) rfl) (pv 4) pe_int (fun _ _ => rfl)) (pv 1) (nomark _)))) (fun _ _ _ _ _ => (pe_op op_sub (pe_ix (ix_seqK (K := K) rfl) (pv 4) pe_int (fun _ _ => rfl)) (pe_ix (ix_seqK (K := K) rfl) (pv 4) pe_int (fun _ _ => rfl))))) pa_nil)))), ?_⟩
    change Wk.go _ _ [_, _, _, _, none] H
    (try dsimp only [Wk.cxK, Wk.cxKn, Wk.cxW, Wk.cxWn, Wk.cxP, Wk.cxPn])
    walk_at "go"
    refine ⟨p, v, ps, st, en, rfl, hL, hri, hnr, hn, fun H1 a R n1 s1 hR hRo hRl => ?_⟩
    have hfl := hRo.flat fun x => hf _ at_mem
    obtain ⟨as, ha, hal, hall⟩ := id hR
    refine Wk.g_kLcLD R.reverse (fun q => decide (q.2.2 = u)) (fun q => .int (q.2.1 - q.1)) (SqL.of ha) (by rw [List.length_map, hal, List.length_map]) (by rw [List.length_map, hal, List.length_map, List.length_reverse]; omega) (by intro _; rfl) (fun i x d H' Q' hx hd sm qq => ?_) (fun i x d H' Q' hx hd hb sm qq => ?_) (fun l H2 n2 s2 e2 => ?_)
    · walk_at "cl"
      obtain ⟨b, hb, rfl⟩ := Wk.ref_at hx
      have ht := sm _ _ (hall i b (runT d) hb (by rw [List.getElem?_map, hd] <;> rfl))
      simp only [runT] at ht
      walk_at "go"
      refine Wk.g_eqV ((hfl d (List.mem_of_getElem? hd)).scal hu) ?_
      walk_at "go"
      exact qq _ (Same.refl _)
    · walk_at "cl"
      obtain ⟨b, hb, rfl⟩ := Wk.ref_at hx
      have ht := sm _ _ (hall i b (runT d) hb (by rw [List.getElem?_map, hd] <;> rfl))
      simp only [runT] at ht
      walk_at "go"
      exact qq _ (Same.refl _)
    have el : (R.reverse.filter fun q => decide (q.2.2 = u)).map (fun q => V.int (q.2.1 - q.1)) = ((R.reverse.filter fun q => decide (q.2.2 = u)).map fun q => q.2.1 - q.1).map V.int := by
      rw [List.map_map] <;> rfl
    rw [el] at e2
    walk_at "go"
    exact q _ R (Same.via s1 s2) hRo

theorem ok_longest {C fI : Addr} (B : Bt mg) (L : LineC K mg C fI) (R_runs : Rd P w K mg base CX0 3 "runs" ["line", "start", "end"] (sp_runs C)) (D : DefAt K mg "longest" s_longest) : Rd P w K mg base CX0 4 "longest" ["line", "value", "start", "end"] (sp_longest C) := by
  refine D.ok sc_longest (fun _ _ _ _ _ _ us hl => match us, hl with | [_, _, _, _], _ => rfl) (fun vs H Q E h => ?_) (fun f cdv A outer s H vs Q E hr h => ?_)
  · obtain ⟨p, v, ps, s, e, u, rfl, _⟩ := h
    rfl
  · obtain ⟨p, v, ps, st, en, u, rfl, hL, hri, hnr, hn, hf, hu, q⟩ := h
    refine ⟨_, (pss_cons (ps_set (i := 4) sc_longest.nd rfl (by first | exact Or.inl rfl | exact Or.inr rfl) pe_non)
 (pss_cons (ps_for PassesOwn.never rfl (pi_list (pe_callR R_runs (hr.mono (by decide)) rfl pass0 (pa_cons (pv 0) (pa_cons (pv 2) (pa_cons (pv 3) pa_nil))))) (pg_name (i := 5) sc_longest.nd rfl (by first | exact Or.inl rfl | exact Or.inr rfl)) (pss_one (ps_if (PW.pt (pw_and (pt_cmpR (op_eqA hr.units) (pe_ix ix_seq (pv 5) pe_int (fun _ _ => rfl)) (pv 1) (nomark _)) (pw_and1 (PW.pt (pw_or (pt_cmpR op_isN' (pv 4) pe_non (nomark _)) (pw_or1 (pt_cmpR op_gt (pe_op op_sub (pe_ix ix_seq (pv 5) pe_int (fun _ _ => rfl)) (pe_ix ix_seq (pv 5) pe_int (fun _ _ => rfl))) (pe_ix ix_seq (pv 4) pe_int (fun _ _ => rfl)) (nomark _)))))))) (pss_one (ps_set (i := 4) sc_longest.nd rfl (by first | exact Or.inl rfl | exact Or.inr rfl) (pe_tup (pa_cons (pe_ix ix_seq (pv 5) pe_int (fun _ _ => rfl)) (pa_cons (pe_op op_sub (pe_ix ix_seq (pv 5) pe_int (fun _ _ => rfl)) (pe_ix ix_seq (pv 5) pe_int (fun _ _ => rfl))) pa_nil))))) pss_nil)))
 (pss_one (ps_ret (pv 4))))), ?_⟩
    change Wk.go _ _ [_, _, _, _, none, none] H
    (try dsimp only [Wk.cxK, Wk.cxKn, Wk.cxW, Wk.cxWn, Wk.cxP, Wk.cxPn])
    walk_at "go"
    refine ⟨p, v, ps, st, en, rfl, hL, hri, hnr, hn, fun H1 a R n1 s1 hR hRo hRl => ?_⟩
    have hfl := hRo.flat fun x => hf _ at_mem
    obtain ⟨as, ha, hal, hall⟩ := id hR
    rw [List.length_map] at hal
    refine Wk.g_kForL (SqL.of ha)
      (fun i σ' H' => ∃ (bv : V) (y5 : Option V), σ' = [some (.ref p), some u, some (.int st), some (.int en), some bv, y5] ∧ Same H1 H' ∧ BestAt H' bv (longF u (R.reverse.take i)))
      ⟨.non, none, rfl, Same.refl _, rfl⟩ (fun i σ' H' hP => ?_) (fun i x σ' H' hx hP => ?_) (fun σ' H' hP => ?_)
    · obtain ⟨_, _, _, sH, _⟩ := hP
      exact SqL.of (sH _ _ ha)
    · obtain ⟨bv, y5, rfl, sH, hB⟩ := hP
      obtain ⟨b, hb, rfl⟩ := Wk.ref_at hx
      have hi : i < R.reverse.length := by have := (List.getElem?_eq_some_iff.mp hb).1; omega
      obtain ⟨d, hd⟩ : ∃ d, R.reverse[i]? = some d := ⟨_, List.getElem?_eq_getElem hi⟩
      have ht := sH _ _ (hall i b (runT d) hb (by rw [List.getElem?_map, hd] <;> rfl))
      simp only [runT] at ht
      have hstep : longF u (R.reverse.take (i + 1)) = longStep u (longF u (R.reverse.take i)) d := by
        rw [List.take_add_one, hd]
        show longF u (R.reverse.take i ++ [d]) = _
        unfold longF
        rw [List.foldl_append] <;> rfl
      walk_at "go"
      refine Wk.g_eqV ((hfl d (List.mem_of_getElem? hd)).scal hu) ?_
      walk_at "go"
      cases hbest : longF u (R.reverse.take i) with
      | none =>
        rw [hbest] at hB hstep
        have hB : bv = .non := hB
        subst hB
        refine Wk.g_kAnd (fun hb => ?_) (fun hb => ?_)
        · walk_at "go"
          rename_i t2 H2 n2 s2 e2
          refine ⟨_, _, rfl, Same.via sH s2, ?_⟩
          rw [hstep, longStep, hb]
          exact ⟨t2, rfl, e2⟩
        · walk_at "go"
          refine ⟨_, _, rfl, sH, ?_⟩
          rw [hstep, longStep, hb]
          exact rfl
      | some bb =>
        obtain ⟨b1, b2⟩ := bb
        rw [hbest] at hB hstep
        obtain ⟨t0, rfl, ht0⟩ := id hB
        refine Wk.g_kAnd (fun hb => ?_) (fun hb => ?_)
        · walk_at "go"
          refine Wk.g_kIf (fun hb2 => ?_) (fun hb2 => ?_)
          · walk_at "go"
            rename_i t2 H2 n2 s2 e2
            refine ⟨_, _, rfl, Same.via sH s2, ?_⟩
            rw [hstep, longStep, hb]
            show BestAt H2 _ (if (true && decide (d.2.1 - d.1 > b2)) = true then _ else _)
            rw [hb2]
            exact ⟨t2, rfl, e2⟩
          · walk_at "go"
            refine ⟨_, _, rfl, sH, ?_⟩
            rw [hstep, longStep, hb]
            show BestAt H' _ (if (true && decide (d.2.1 - d.1 > b2)) = true then _ else _)
            rw [hb2]
            exact hB
        · walk_at "go"
          refine ⟨_, _, rfl, sH, ?_⟩
          rw [hstep, longStep, hb]
          exact hB
    · obtain ⟨bv, y5, rfl, sH, hB⟩ := hP
      rw [List.length_map, hal, List.take_length] at hB
      walk_at "go"
      exact q _ R bv (Same.via s1 sH) hRo hB

theorem ok_first_room {C fI : Addr} (B : Bt mg) (L : LineC K mg C fI) (R_end_of_run : Rd P w K mg base CX0 2 "end_of_run" ["line", "place"] (sp_end_of_run C)) (R_value_at : Rd P w K mg base CX0 1 "value_at" ["line", "place"] (sp_value_at C)) (D : DefAt K mg "first_room" s_first_room) : Rd P w K mg base CX0 3 "first_room" ["line", "value", "place", "size"] (sp_first_room0 C) := by
  refine D.ok sc_first_room (fun _ _ _ _ _ _ us hl => match us, hl with | [_, _, _, _], _ => rfl) (fun vs H Q E h => ?_) (fun f cdv A outer s H vs Q E hr h => ?_)
  · obtain ⟨p, v, ps, u, x, n, rfl, _⟩ := h
    rfl
  · obtain ⟨p, v, ps, u, x, n, rfl, hL, hri, hnr, hn, hf, hu, hge, q⟩ := h
    refine ⟨_, (pss_cons (ps_if (pt_cmpR op_lt (pv 3) pe_int (nomark _)) (pss_one ps_never) pss_nil)
 (pss_cons (ps_set (i := 4) sc_first_room.nd rfl (by first | exact Or.inl rfl | exact Or.inr rfl) (pv 2))
 (pss_one (ps_while PassesOwn.never (pt_val pe_bl) (pss_cons (ps_set (i := 5) sc_first_room.nd rfl (by first | exact Or.inl rfl | exact Or.inr rfl) (pe_callR R_end_of_run (hr.mono (by decide)) rfl pass0 (pa_cons (pv 0) (pa_cons (pv 4) pa_nil))))
 (pss_cons (ps_if (PW.pt (pw_and (pt_cmpR (op_eqA hr.units) (pe_callR R_value_at (hr.mono (by decide)) rfl pass0 (pa_cons (pv 0) (pa_cons (pv 4) pa_nil))) (pv 1) (nomark _)) (pw_and1 (PW.pt (pw_or (pt_cmpR op_isN' (pv 5) pe_non (nomark _)) (pw_or1 (pt_cmpR op_ge (pe_op op_sub (pv 5) (pv 4)) (pv 3) (nomark _)))))))) (pss_one (ps_ret (pv 4))) pss_nil)
 (pss_cons (ps_if (pt_cmpR op_isN' (pv 5) pe_non (nomark _)) (pss_one (ps_ret pe_non)) pss_nil)
 (pss_one (ps_set (i := 4) sc_first_room.nd rfl (by first | exact Or.inl rfl | exact Or.inr rfl) (pv 5)))))))))), ?_⟩
    change Wk.go _ _ [_, _, _, _, none, none] H
    (try dsimp only [Wk.cxK, Wk.cxKn, Wk.cxW, Wk.cxWn, Wk.cxP, Wk.cxPn])
    walk_at "go"
    refine Wk.g_kIfF (decide_eq_false (by omega)) ?_
    walk_at "go"
    refine Wk.g_while (fun m σ' H' => ∃ (y : Int) (y5 : Option V), σ' = [some (.ref p), some u, some (.int x), some (.int n), some (.int y), y5] ∧ Same H H' ∧ x ≤ y ∧ (∀ z, x ≤ z → z < y → ¬ RoomAt (at_ v ps) u n z) ∧ m = (hi y ps).length) _
      ⟨x, none, rfl, Same.refl _, Int.le_refl x, fun z h1 h2 => absurd h1 (by omega), rfl⟩ (fun m σ' H' hP => ?_)
    obtain ⟨y, y5, rfl, sH, hxy, hno, hm⟩ := hP
    walk_at "go"
    refine Wk.g_kW (fun hb N hN => ?_) (fun hb => nomatch hb)
    walk_at "go"
    refine ⟨p, v, ps, y, rfl, hL.same sH, hri.srt, hn, fun H2 s2 => ?_⟩
    walk_at "go"
    refine ⟨p, v, ps, y, rfl, hL.same (Same.via sH s2), hri.srt, fun H3 s3 => ?_⟩
    have s03 := Same.via sH (Same.via s2 s3)
    walk_at "go"
    refine Wk.g_eqV ((hf _ at_mem).scal hu) ?_
    walk_at "go"
    cases hc : nextCut ps y with
    | none =>
      simp only [optV]
      refine Wk.g_kAnd (fun hb => ?_) (fun hb => ?_)
      · have hb := of_decide_eq_true hb
        walk_at "go"
        exact q H3 (some y) s03 ⟨hxy, fun z hz _ => (next_none hc hz).trans hb, hno⟩
      · have hb := of_decide_eq_false hb
        walk_at "go"
        refine q H3 none s03 fun z hz hroom => ?_
        rcases Int.lt_or_le z y with hzy | hzy
        · exact hno z hz hzy hroom
        · exact hb ((next_none hc hzy).symm.trans (hroom z (Int.le_refl z) (by omega)))
    | some c =>
      obtain ⟨a1, a2, a3⟩ := next_some hri hnr hc
      have hlen := hi_next hc
      simp only [optV]
      refine Wk.g_kAnd (fun hb => ?_) (fun hb => ?_)
      · have hb := of_decide_eq_true hb
        walk_at "go"
        refine Wk.g_kIf (fun hs => ?_) (fun hs => ?_)
        · have hs := of_decide_eq_true hs
          walk_at "go"
          exact q H3 (some y) s03 ⟨hxy, fun z hz hz2 => (a2 z hz (by omega)).trans hb, hno⟩
        · have hs := of_decide_eq_false hs
          walk_at "go"
          refine hN _ _ (hi c ps).length (by omega) ⟨c, _, rfl, s03, by omega, fun z hz hzc hroom => ?_, rfl⟩
          rcases Int.lt_or_le z y with hzy | hzy
          · exact hno z hz hzy hroom
          · exact a3 ((hroom c (by omega) (by omega)).trans hb.symm)
      · have hb := of_decide_eq_false hb
        walk_at "go"
        refine hN _ _ (hi c ps).length (by omega) ⟨c, _, rfl, s03, by omega, fun z hz hzc hroom => ?_, rfl⟩
        rcases Int.lt_or_le z y with hzy | hzy
        · exact hno z hz hzy hroom
        · exact hb ((a2 z hzy hzc).symm.trans (hroom z (Int.le_refl z) (by omega)))

theorem ok_parted {C fI : Addr} (B : Bt mg) (L : LineC K mg C fI) (R_behind : Rd P w K mg base CX0 1 "behind" ["line", "place"] (sp_behind C)) (R_value_at : Rd P w K mg base CX0 1 "value_at" ["line", "place"] (sp_value_at C)) (D : DefAt K mg "parted" s_parted) : Rd P w K mg base CX0 2 "parted" ["one", "other", "place"] (sp_parted C) := by
  refine D.ok sc_parted (fun _ _ _ _ _ _ us hl => match us, hl with | [_, _, _], _ => rfl) (fun vs H Q E h => ?_) (fun f cdv A outer s H vs Q E hr h => ?_)
  · obtain ⟨p, r, v, u, ps, qs, x, rfl, _⟩ := h
    rfl
  · obtain ⟨p, r, v, u, ps, qs, x, rfl, hp, hq, hsp, hsq, lp, lq, fp, fq, q⟩ := h
    refine ⟨_, (pss_cons (ps_if (pt_cmpR (op_neA hr.units) (pe_callR R_value_at (hr.mono (by decide)) rfl pass0 (pa_cons (pv 0) (pa_cons (pv 2) pa_nil))) (pe_callR R_value_at (hr.mono (by decide)) rfl pass0 (pa_cons (pv 1) (pa_cons (pv 2) pa_nil))) (nomark _)) (pss_one (ps_ret (pv 2))) pss_nil)
 (pss_cons (ps_for PassesOwn.never rfl (pi_list (pe_callB (call_sortedA rfl) (by rfl) B.sorted (by decide +kernel) (pa_cons (pe_op op_addA (pe_ix ix_seq (pe_callR R_behind (hr.mono (by decide)) rfl pass0 (pa_cons (pv 0) (pa_cons (pv 2) pa_nil))) pe_int (fun _ _ => rfl)) (pe_ix ix_seq (pe_callR R_behind (hr.mono (by decide)) rfl pass0 (pa_cons (pv 1) (pa_cons (pv 2) pa_nil))) pe_int (fun _ _ => rfl))) pa_nil))) (pg_name (i := 3) sc_parted.nd rfl (by first | exact Or.inl rfl | exact Or.inr rfl)) (pss_one (ps_if (pt_cmpR (op_neA hr.units) (pe_callR R_value_at (hr.mono (by decide)) rfl pass0 (pa_cons (pv 0) (pa_cons (pv 3) pa_nil))) (pe_callR R_value_at (hr.mono (by decide)) rfl pass0 (pa_cons (pv 1) (pa_cons (pv 3) pa_nil))) (nomark _)) (pss_one (ps_ret (pv 3))) pss_nil)))
 (pss_one (ps_ret pe_non)))), ?_⟩
    change Wk.go _ _ [_, _, _, none] H
    (try dsimp only [Wk.cxK, Wk.cxKn, Wk.cxW, Wk.cxWn, Wk.cxP, Wk.cxPn])
    walk_at "go"
    refine ⟨p, v, ps, x, rfl, hp, hsp, fun H1 s1 => ?_⟩
    walk_at "go"
    refine ⟨r, u, qs, x, rfl, hq.same s1, hsq, fun H2 s2 => ?_⟩
    have s02 := Same.via s1 s2
    refine Wk.g_neV ((fp _ at_mem).scal (fq _ at_mem)) ?_
    walk_at "go"
    refine Wk.g_kIf (fun hb => ?_) (fun hb => ?_)
    · have hb : at_ v ps x ≠ at_ u qs x := fun z => by rw [decide_eq_true z] at hb; cases hb
      walk_at "go"
      exact q _ (some x) s02 ⟨Int.le_refl x, hb, fun z h1 h2 => absurd h1 (by omega)⟩
    have hb : at_ v ps x = at_ u qs x := by
      cases hd : decide (at_ v ps x = at_ u qs x) with
      | true => exact of_decide_eq_true hd
      | false => rw [hd] at hb; cases hb
    walk_at "go"
    refine ⟨p, v, ps, x, rfl, hp.same s02, hsp, lp, fun H3 t a b n3 _ _ s3 ht ha _ => ?_⟩
    walk_at "go"
    refine ⟨r, u, qs, x, rfl, hq.same (Same.via s02 s3), hsq, lq, fun H4 t' a' b' n4 _ _ s4 ht' ha' _ => ?_⟩
    have ha4 := s4 _ _ ha
    have l1 := len_hi (ps := ps) (x := x)
    have l2 := len_hi (ps := qs) (x := x)
    walk_at "go"
    rename_i z H5 n5 s5 e5
    rw [← List.map_append] at e5
    refine Wk.g_sortedI (SqL.of e5) fun es z2 H6 hpm hpw n6 s6 e6 => ?_
    have s06 := Same.via s02 (Same.via s3 (Same.via s4 (Same.via s5 s6)))
    have hge : ∀ e ∈ es, x ≤ e := fun e he => by
      have he := hpm.mem_iff.mp he
      rcases List.mem_append.mp he with y | y
      · obtain ⟨c, hc, rfl⟩ := List.mem_map.mp y
        exact Int.le_of_lt (hi_lt hc)
      · obtain ⟨c, hc, rfl⟩ := List.mem_map.mp y
        exact Int.le_of_lt (hi_lt hc)
    have hf : StepsGe (at_ v ps) x es := stepsGe_hi fun c hc => hpm.mem_iff.mpr (List.mem_append_left _ hc)
    have hg : StepsGe (at_ u qs) x es := stepsGe_hi fun c hc => hpm.mem_iff.mpr (List.mem_append_right _ hc)
    refine Wk.g_kForL (SqL.of e6)
      (fun i σ' H' => ∃ y3 : Option V, σ' = [some (.ref p), some (.ref r), some (.int x), y3] ∧ Same H H' ∧ H' z2 = some (.lst (es.map V.int)) ∧ PartInv (at_ v ps) (at_ u qs) x es i)
      ⟨none, rfl, s06, e6, part_init hf hg hge hb⟩ (fun i σ' H' hP => ?_) (fun i y σ' H' hy hP => ?_) (fun σ' H' hP => ?_)
    · obtain ⟨_, _, _, ez, _⟩ := hP
      exact SqL.of ez
    · obtain ⟨y3, rfl, sH, ez, hI⟩ := hP
      obtain ⟨c, hc, rfl⟩ := int_at hy
      walk_at "go"
      refine ⟨p, v, ps, c, rfl, hp.same sH, hsp, fun H7 s7 => ?_⟩
      walk_at "go"
      refine ⟨r, u, qs, c, rfl, hq.same (Same.via sH s7), hsq, fun H8 s8 => ?_⟩
      have s78 := Same.via s7 s8
      refine Wk.g_neV ((fp _ at_mem).scal (fq _ at_mem)) ?_
      walk_at "go"
      refine Wk.g_kIf (fun hb => ?_) (fun hb => ?_)
      · have hb : at_ v ps c ≠ at_ u qs c := fun z => by rw [decide_eq_true z] at hb; cases hb
        walk_at "go"
        exact q _ (some c) (Same.via sH s78) (part_found hpw hge hc hb hI)
      · have hb : at_ v ps c = at_ u qs c := by
          cases hd : decide (at_ v ps c = at_ u qs c) with
          | true => exact of_decide_eq_true hd
          | false => rw [hd] at hb; cases hb
        walk_at "go"
        exact ⟨_, rfl, Same.via sH s78, s78 _ _ ez, part_step hpw hf hg hge hc hb hI⟩
    · obtain ⟨y3, rfl, sH, ez, hI⟩ := hP
      rw [List.length_map] at hI
      walk_at "go"
      exact q _ none sH (part_end hI)

theorem ok_put {C fI : Addr} (B : Bt mg) (L : LineC K mg C fI) (R_line_of : Rd P w K mg base CX0 3 "line_of" ["cuts", "holds"] (sp_line_of K C)) (R_ahead : Rd P w K mg base CX0 1 "ahead" ["line", "place"] (sp_ahead C)) (R_behind : Rd P w K mg base CX0 1 "behind" ["line", "place"] (sp_behind C)) (R_value_at : Rd P w K mg base CX0 1 "value_at" ["line", "place"] (sp_value_at C)) (D : DefAt K mg "put" s_put) : Rd P w K mg base CX0 4 "put" ["line", "start", "end", "value"] (sp_put C) := by
  refine D.ok sc_put (fun _ _ _ _ _ _ us hl => match us, hl with | [_, _, _, _], _ => rfl) (fun vs H Q E h => ?_) (fun f cdv A outer s H vs Q E hr h => ?_)
  · obtain ⟨p, v, ps, s, e, x, rfl, _⟩ := h
    rfl
  · obtain ⟨p, v, ps, st, en, x, rfl, hL, hx, hn, q⟩ := h
    have hs := hL.ris.srt
    have fin : ∀ (H1 : Hp) (a b : Addr), Same H H1 → (∀ y z, st = some y → en = some z → y < z) → H1 a = some (.lst ((cuts (putPs v ps x st en).2).map V.int)) → H1 b = some (.lst (holds (putPs v ps x st en).1 (putPs v ps x st en).2)) → ∀ {k : VK}, (∀ v H', Q v H' → k v H') → sp_line_of K C [.ref a, .ref b] H1 k E := by
      intro H1 a b s1 hse ha hb k hk
      have hl := len_putPs (v := v) (w := x) (ps := ps) hse
      have hv : AllHV (putPs v ps x st en).1 (putPs v ps x st en).2 := all_putPs hL.hv hx
      have hs' := srt_putPs (v := v) (w := x) hs hse
      refine ⟨a, b, _, _, fun x y => decide (x = y), rfl, SqL.of ha, SqL.of hb, by omega, hv.ne, fun H2 p2 n2 s2 hl2 => hk _ _ ?_⟩
      refine q H2 p2 _ _ (Wk.fresh_back s1 n2) (Same.via s1 s2) (done_keep hl2 hs' hv) (Nat.le_trans keepB_len (by omega)) fun y => ?_
      rw [at_keep hs', at_putPs (o := V.non) hs hse]
    obtain ⟨dx, lc, lh, hi', hlc, hlh⟩ := id hL.at'
    refine ⟨_, (pss_cons (ps_if (PW.pt (pw_and (pt_cmpR op_notN' (pv 1) pe_non (nomark _)) (pw_and (pt_cmpR op_notN' (pv 2) pe_non (nomark _)) (pw_and1 (pt_cmpR op_le (pv 2) (pv 1) (nomark _)))))) (pss_one (ps_ret (pe_callR R_line_of (hr.mono (by decide)) rfl pass0 (pa_cons (pe_fld (pv 0) rfl) (pa_cons (pe_fld (pv 0) rfl) pa_nil))))) pss_nil)
 (pss_cons (ps_set (i := 4) sc_put.nd rfl (by first | exact Or.inl rfl | exact Or.inr rfl) (pe_lst pa_nil))
 (pss_cons (ps_set (i := 5) sc_put.nd rfl (by first | exact Or.inl rfl | exact Or.inr rfl) (pe_lst (pa_cons (pv 3) pa_nil)))
 (pss_cons (ps_if (pt_cmpR op_notN' (pv 1) pe_non (nomark _)) (pss_cons (ps_set (i := 6) sc_put.nd rfl (by first | exact Or.inl rfl | exact Or.inr rfl) (pe_callR R_ahead (hr.mono (by decide)) rfl pass0 (pa_cons (pv 0) (pa_cons (pv 1) pa_nil))))
 (pss_cons (ps_set (i := 4) sc_put.nd rfl (by first | exact Or.inl rfl | exact Or.inr rfl) (pe_op op_addA (pe_ix ix_seq (pv 6) pe_int (fun _ _ => rfl)) (pe_lst (pa_cons (pv 1) pa_nil))))
 (pss_one (ps_set (i := 5) sc_put.nd rfl (by first | exact Or.inl rfl | exact Or.inr rfl) (pe_op op_addA (pe_ix ix_seq (pv 6) pe_int (fun _ _ => rfl)) (pe_lst (pa_cons (pv 3) pa_nil))))))) pss_nil)
 (pss_cons (ps_if (pt_cmpR op_notN' (pv 2) pe_non (nomark _)) (pss_cons (ps_set (i := 7) sc_put.nd rfl (by first | exact Or.inl rfl | exact Or.inr rfl) (pe_callR R_behind (hr.mono (by decide)) rfl pass0 (pa_cons (pv 0) (pa_cons (pv 2) pa_nil))))
 (pss_cons (ps_set (i := 4) sc_put.nd rfl (by first | exact Or.inl rfl | exact Or.inr rfl) (pe_op op_addA (pe_op op_addA (pv 4) (pe_lst (pa_cons (pv 2) pa_nil))) (pe_ix ix_seq (pv 7) pe_int (fun _ _ => rfl))))
 (pss_one (ps_set (i := 5) sc_put.nd rfl (by first | exact Or.inl rfl | exact Or.inr rfl) (pe_op op_addA (pe_op op_addA (pv 5) (pe_lst (pa_cons (pe_callR R_value_at (hr.mono (by decide)) rfl pass0 (pa_cons (pv 0) (pa_cons (pv 2) pa_nil))) pa_nil))) (pe_ix ix_seq (pv 7) pe_int (fun _ _ => rfl))))))) pss_nil)
 (pss_one (ps_ret (pe_callR R_line_of (hr.mono (by decide)) rfl pass0 (pa_cons (pv 4) (pa_cons (pv 5) pa_nil)))))))))), ?_⟩
    change Wk.go _ _ [_, _, _, _, none, none, none, none] H
    (try dsimp only [Wk.cxK, Wk.cxKn, Wk.cxW, Wk.cxWn, Wk.cxP, Wk.cxPn])
    walk_at "go"
    cases st with
    | none =>
      cases en with
      | none =>
        simp only [optV]
        walk_at "go"
        rename_i p1 H1 n1 s1 e1 p2 H2 n2 s2 e2
        exact fin H2 p1 p2 (Same.via s1 s2) (fun y z h => nomatch h) (s2 _ _ e1) e2 fun _ _ q => q
      | some b =>
        simp only [optV]
        have lb := len_hi (ps := ps) (x := b)
        walk_at "go"
        rename_i p1 H1 n1 s1 e1 p2 H2 n2 s2 e2
        have s02 := Same.via s1 s2
        refine ⟨p, v, ps, b, rfl, hL.at'.same s02, hs, by omega, fun H3 t lc' lh' nt na nb s3 ht hc' hh' => ?_⟩
        have e13 := s3 _ _ (s2 _ _ e1)
        have e23 := s3 _ _ e2
        have s03 := Same.via s02 s3
        walk_at "go"
        rename_i q1 H4 n4 s4 e4 q2 H5 n5 s5 e5 q3 H6 n6 s6 e6
        have s35 := Same.via s4 s5
        have s36 := Same.via s35 s6
        have e26 := s36 _ _ e23
        have ht6 := s36 _ _ ht
        have hh6 := s36 _ _ hh'
        refine ⟨p, v, ps, b, rfl, hL.at'.same (Same.via s03 s36), hs, fun H7 s7 => ?_⟩
        have e27 := s7 _ _ e26
        have s37 := Same.via s36 s7
        walk_at "go"
        rename_i q4 H8 n8 s8 e8 q5 H9 n9 s9 e9 q6 H10 n10 s10 e10
        have s39 := Same.via s37 (Same.via s8 s9)
        have s610 := Same.via s7 (Same.via s8 (Same.via s9 s10))
        have e610 := s610 _ _ e6
        refine fin H10 q3 q6 (Same.via s03 (Same.via s39 s10)) (fun y z h => nomatch h) ?_ ?_ fun _ _ q => q
        · rw [e610, putPs_cuts]
          simp
        · rw [e10, putPs_holds]
          simp
    | some a =>
      have la := len_lo (ps := ps) (x := a)
      cases en with
      | none =>
        simp only [optV]
        walk_at "go"
        rename_i p1 H1 n1 s1 e1 p2 H2 n2 s2 e2
        have s02 := Same.via s1 s2
        refine ⟨p, v, ps, a, rfl, hL.at'.same s02, hs, by omega, fun H3 t lc' lh' nt na nb s3 ht hc' hh' => ?_⟩
        have s03 := Same.via s02 s3
        walk_at "go"
        rename_i q1 H4 n4 s4 e4 q2 H5 n5 s5 e5 q3 H6 n6 s6 e6 q4 H7 n7 s7 e7
        have s35 := Same.via s4 s5
        refine fin H7 q2 q4 (Same.via s03 (Same.via s35 (Same.via s6 s7))) (fun y z _ h => nomatch h) ?_ ?_ fun _ _ q => q
        · rw [s7 _ _ (s6 _ _ e5), putPs_cuts]
          simp
        · rw [e7, putPs_holds]
          simp
      | some b =>
        simp only [optV]
        have lb := len_hi (ps := ps) (x := b)
        walk_at "go"
        refine Wk.g_kIf (fun hb => ?_) (fun hb => ?_)
        · have hb := of_decide_eq_true hb
          walk_at "go"
          refine ⟨p, C, dx, _, _, rfl, hi', L.cl, L.nC, lf_cuts _ _, ?_⟩
          walk_at "go"
          refine ⟨p, C, dx, _, _, rfl, hi', L.cl, L.nH, lf_holds _ _, ?_⟩
          walk_at "go"
          refine ⟨lc, lh, v, ps, fun x y => decide (x = y), rfl, SqL.of hlc, SqL.of hlh, by omega, hL.hv.ne, fun H2 p2 n2 s2 hl2 => ?_⟩
          walk_at "go"
          refine q H2 p2 _ _ n2 s2 (done_keep hl2 hs hL.hv) (Nat.le_trans keepB_len (by omega)) fun y => ?_
          rw [at_keep hs]
          exact put_empty hb y
        · have hab : a < b := by have := of_decide_eq_false hb; omega
          walk_at "go"
          rename_i p1 H1 n1 s1 e1 p2 H2 n2 s2 e2
          have s02 := Same.via s1 s2
          refine ⟨p, v, ps, a, rfl, hL.at'.same s02, hs, by omega, fun H3 t lc' lh' nt na nb s3 ht hc' hh' => ?_⟩
          have s03 := Same.via s02 s3
          walk_at "go"
          rename_i q1 H4 n4 s4 e4 q2 H5 n5 s5 e5 q3 H6 n6 s6 e6 q4 H7 n7 s7 e7
          have s35 := Same.via s4 s5
          have s57 := Same.via s6 s7
          have s07 := Same.via s03 (Same.via s35 s57)
          have e57 := s57 _ _ e5
          refine ⟨p, v, ps, b, rfl, hL.at'.same s07, hs, by omega, fun H8 t' lc2 lh2 nt' na' nb' s8 ht' hc2 hh2 => ?_⟩
          have e58 := s8 _ _ e57
          have e78 := s8 _ _ e7
          have s08 := Same.via s07 s8
          walk_at "go"
          rename_i r1 H9 m9 u9 f9 r2 H10 m10 u10 f10 r3 H11 m11 u11 f11
          have s810 := Same.via u9 u10
          have s811 := Same.via s810 u11
          have e711 := s811 _ _ e78
          refine ⟨p, v, ps, b, rfl, hL.at'.same (Same.via s08 s811), hs, fun H12 u12 => ?_⟩
          have e712 := u12 _ _ e711
          have s812 := Same.via s811 u12
          walk_at "go"
          rename_i r4 H13 m13 u13 f13 r5 H14 m14 u14 f14 r6 H15 m15 u15 f15
          have s814 := Same.via s812 (Same.via u13 u14)
          have f1115 := u15 _ _ (u14 _ _ (u13 _ _ (u12 _ _ f11)))
          refine fin H15 r3 r6 (Same.via s08 (Same.via s814 u15)) (fun y z h h2 => by cases h; cases h2; exact hab) ?_ ?_ fun _ _ q => q
          · rw [f1115, putPs_cuts]
            simp
          · rw [f15, putPs_holds]
            simp

theorem ok_opened {C fI : Addr} (B : Bt mg) (L : LineC K mg C fI) (R_line_of : Rd P w K mg base CX0 3 "line_of" ["cuts", "holds"] (sp_line_of K C)) (R_ahead : Rd P w K mg base CX0 1 "ahead" ["line", "place"] (sp_ahead C)) (R_behind : Rd P w K mg base CX0 1 "behind" ["line", "place"] (sp_behind C)) (R_value_at : Rd P w K mg base CX0 1 "value_at" ["line", "place"] (sp_value_at C)) (D : DefAt K mg "opened" s_opened) : Rd P w K mg base CX0 4 "opened" ["line", "place", "size"] (sp_opened C) := by
  refine D.ok sc_opened (fun _ _ _ _ _ _ us hl => match us, hl with | [_, _, _], _ => rfl) (fun vs H Q E h => ?_) (fun f cdv A outer s H vs Q E hr h => ?_)
  · obtain ⟨p, v, ps, x, n, rfl, _⟩ := h
    rfl
  · obtain ⟨p, v, ps, x, n, rfl, hL, h0, hn, q⟩ := h
    have hs := hL.ris.srt
    refine ⟨_, (pss_cons (ps_if (pt_cmpR op_lt (pv 2) pe_int (nomark _)) (pss_one ps_never) pss_nil)
 (pss_cons (ps_set (i := 3) sc_opened.nd rfl (by first | exact Or.inl rfl | exact Or.inr rfl) (pe_callR R_ahead (hr.mono (by decide)) rfl pass0 (pa_cons (pv 0) (pa_cons (pv 1) pa_nil))))
 (pss_cons (ps_set (i := 4) sc_opened.nd rfl (by first | exact Or.inl rfl | exact Or.inr rfl) (pe_callR R_behind (hr.mono (by decide)) rfl pass0 (pa_cons (pv 0) (pa_cons (pv 1) pa_nil))))
 (pss_cons (ps_set (i := 5) sc_opened.nd rfl (by first | exact Or.inl rfl | exact Or.inr rfl) (pe_op op_addA (pe_op op_addA (pe_ix ix_seq (pv 3) pe_int (fun _ _ => rfl)) (pe_lst (pa_cons (pv 1) (pa_cons (pe_op op_addA (pv 1) (pv 2)) pa_nil)))) (pe_lc (own := [("cut", 6)]) (g := gName 6) (tt := tYes) (by rfl) sc_opened.nd (pi_list (pe_ix ix_seq (pv 4) pe_int (fun _ _ => rfl))) (blkOk_by (own := [("cut", 6)]) (N := N_opened) (sc := defScope s_opened) (by decide +kernel)) (fun _ _ _ _ _ => pg_name (i := 6) sc_opened.nd rfl (by first | exact Or.inl rfl | exact Or.inr rfl)) (fun _ _ _ _ _ => pts_nil) (fun _ _ _ _ _ => (pe_op op_addA (pv 6) (pv 2))))))
 (pss_one (ps_ret (pe_callR R_line_of (hr.mono (by decide)) rfl pass0 (pa_cons (pv 5) (pa_cons (pe_op op_addA (pe_op op_addA (pe_ix ix_seq (pv 3) pe_int (fun _ _ => rfl)) (pe_lst (pa_cons pe_non (pa_cons (pe_callR R_value_at (hr.mono (by decide)) rfl pass0 (pa_cons (pv 0) (pa_cons (pv 1) pa_nil))) pa_nil)))) (pe_ix ix_seq (pv 4) pe_int (fun _ _ => rfl))) pa_nil))))))))), ?_⟩
    change Wk.go _ _ [_, _, _, none, none, none, none] H
    (try dsimp only [Wk.cxK, Wk.cxKn, Wk.cxW, Wk.cxWn, Wk.cxP, Wk.cxPn])
    walk_at "go"
    refine Wk.g_kIfF (by simp; omega) ?_
    walk_at "go"
    refine ⟨p, v, ps, x, rfl, hL.at', hs, by omega, fun H1 t a b nt na nb s1 ht ha hb => ?_⟩
    have hL1 := hL.same s1
    walk_at "go"
    refine ⟨p, v, ps, x, rfl, hL1.at', hs, by omega, fun H2 u c d nu nc nd s2 hu hc hd => ?_⟩
    have s02 := Same.via s1 s2
    have ht2 := s2 _ _ ht
    have ha2 := s2 _ _ ha
    have hb2 := s2 _ _ hb
    have ll := len_lo (ps := ps) (x := x)
    have lh := len_hi (ps := ps) (x := x)
    walk_at "go"
    rename_i p3 H3 n3 s3 e3 p4 H4 n4 s4 e4
    refine Wk.g_kLcLI (fun c => c + n) (SqL.of (s4 _ _ (s3 _ _ hc))) (by rw [List.length_map]; omega) (by intro _; rfl) (fun i c H' Q' hc sm qq => ?_) (fun p5 H5 n5 s5 e5 => ?_)
    · walk_at "cl"
      walk_at "go"
      exact qq _ (Same.refl _)
    have e45 := s5 _ _ e4
    have s25 := Same.via s3 (Same.via s4 s5)
    have s05 := Same.via s02 s25
    walk_at "go"
    rename_i p6 H6 n6 s6 e6
    have s26 := Same.via s25 s6
    have s06 := Same.via s02 s26
    have hb6 := s26 _ _ hb2
    have ht6 := s26 _ _ ht2
    walk_at "go"
    refine ⟨p, v, ps, x, rfl, (hL.same s06).at', hs, fun H7 s7 => ?_⟩
    have hb7 := s7 _ _ hb6
    have s27 := Same.via s26 s7
    walk_at "go"
    rename_i p8 H8 n8 s8 e8 p9 H9 n9 s9 e9 p10 H10 n10 s10 e10
    have s610 := Same.via s7 (Same.via s8 (Same.via s9 s10))
    have e610 := s610 _ _ e6
    have ec : ((cuts (lo x ps)).map V.int ++ [V.int x, V.int (x + n)]) ++ ((cuts (hi x ps)).map fun c => c + n).map V.int = (cuts (opnPs .non v ps x n)).map V.int := by
      simp [opnPs, cuts]
    have eh : (holds v (lo x ps) ++ [V.non, at_ v ps x]) ++ (hi x ps).map (·.2) = holds v (opnPs .non v ps x n) := by
      simp [opnPs, holds]
    rw [ec] at e610
    rw [eh] at e10
    have hv : AllHV v (opnPs .non v ps x n) := all_opnPs hL.hv (.inl rfl)
    have hs' : Srt (opnPs V.non v ps x n) := srt_opnPs hs h0
    have hl := len_opnPs (o := V.non) (v := v) (ps := ps) (p := x) (n := n)
    have s010 := Same.via s06 s610
    refine ⟨p6, p10, v, _, fun x y => decide (x = y), rfl, SqL.of e610, SqL.of e10, by omega, hv.ne, fun H11 p2 n11 s11 hl2 => ?_⟩
    walk_at "go"
    refine q H11 p2 _ _ (Wk.fresh_back s010 n11) (Same.via s010 s11) (done_keep hl2 hs' hv) (Nat.le_trans keepB_len (by omega)) fun y => ?_
    rw [at_keep hs', at_opnPs hs h0]

theorem ok_closed {C fI : Addr} (B : Bt mg) (L : LineC K mg C fI) (R_line_of : Rd P w K mg base CX0 3 "line_of" ["cuts", "holds"] (sp_line_of K C)) (R_ahead : Rd P w K mg base CX0 1 "ahead" ["line", "place"] (sp_ahead C)) (R_behind : Rd P w K mg base CX0 1 "behind" ["line", "place"] (sp_behind C)) (R_value_at : Rd P w K mg base CX0 1 "value_at" ["line", "place"] (sp_value_at C)) (D : DefAt K mg "closed" s_closed) : Rd P w K mg base CX0 4 "closed" ["line", "place", "size"] (sp_closed C) := by
  refine D.ok sc_closed (fun _ _ _ _ _ _ us hl => match us, hl with | [_, _, _], _ => rfl) (fun vs H Q E h => ?_) (fun f cdv A outer s H vs Q E hr h => ?_)
  · obtain ⟨p, v, ps, x, n, rfl, _⟩ := h
    rfl
  · obtain ⟨p, v, ps, x, n, rfl, hL, h0, hn, q⟩ := h
    have hs := hL.ris.srt
    refine ⟨_, (pss_cons (ps_if (pt_cmpR op_lt (pv 2) pe_int (nomark _)) (pss_one ps_never) pss_nil)
 (pss_cons (ps_set (i := 3) sc_closed.nd rfl (by first | exact Or.inl rfl | exact Or.inr rfl) (pe_callR R_ahead (hr.mono (by decide)) rfl pass0 (pa_cons (pv 0) (pa_cons (pv 1) pa_nil))))
 (pss_cons (ps_set (i := 4) sc_closed.nd rfl (by first | exact Or.inl rfl | exact Or.inr rfl) (pe_callR R_behind (hr.mono (by decide)) rfl pass0 (pa_cons (pv 0) (pa_cons (pe_op op_addA (pv 1) (pv 2)) pa_nil))))
 (pss_cons (ps_set (i := 5) sc_closed.nd rfl (by first | exact Or.inl rfl | exact Or.inr rfl) (pe_op op_addA (pe_op op_addA (pe_ix ix_seq (pv 3) pe_int (fun _ _ => rfl)) (pe_lst (pa_cons (pv 1) pa_nil))) (pe_lc (own := [("cut", 6)]) (g := gName 6) (tt := tYes) (by rfl) sc_closed.nd (pi_list (pe_ix ix_seq (pv 4) pe_int (fun _ _ => rfl))) (blkOk_by (own := [("cut", 6)]) (N := N_closed) (sc := defScope s_closed) (by decide +kernel)) (fun _ _ _ _ _ => pg_name (i := 6) sc_closed.nd rfl (by first | exact Or.inl rfl | exact Or.inr rfl)) (fun _ _ _ _ _ => pts_nil) (fun _ _ _ _ _ => (pe_op op_sub (pv 6) (pv 2))))))
 (pss_one (ps_ret (pe_callR R_line_of (hr.mono (by decide)) rfl pass0 (pa_cons (pv 5) (pa_cons (pe_op op_addA (pe_op op_addA (pe_ix ix_seq (pv 3) pe_int (fun _ _ => rfl)) (pe_lst (pa_cons (pe_callR R_value_at (hr.mono (by decide)) rfl pass0 (pa_cons (pv 0) (pa_cons (pe_op op_addA (pv 1) (pv 2)) pa_nil))) pa_nil))) (pe_ix ix_seq (pv 4) pe_int (fun _ _ => rfl))) pa_nil))))))))), ?_⟩
    change Wk.go _ _ [_, _, _, none, none, none, none] H
    (try dsimp only [Wk.cxK, Wk.cxKn, Wk.cxW, Wk.cxWn, Wk.cxP, Wk.cxPn])
    walk_at "go"
    refine Wk.g_kIfF (by simp; omega) ?_
    walk_at "go"
    refine ⟨p, v, ps, x, rfl, hL.at', hs, by omega, fun H1 t a b nt na nb s1 ht ha hb => ?_⟩
    have hL1 := hL.same s1
    walk_at "go"
    refine ⟨p, v, ps, x + n, rfl, hL1.at', hs, by omega, fun H2 u c d nu nc nd s2 hu hc hd => ?_⟩
    have s02 := Same.via s1 s2
    have ht2 := s2 _ _ ht
    have ha2 := s2 _ _ ha
    have hb2 := s2 _ _ hb
    have ll := len_lo (ps := ps) (x := x)
    have lh := len_hi (ps := ps) (x := x + n)
    walk_at "go"
    rename_i p3 H3 n3 s3 e3 p4 H4 n4 s4 e4
    refine Wk.g_kLcLI (fun c => c - n) (SqL.of (s4 _ _ (s3 _ _ hc))) (by rw [List.length_map]; omega) (by intro _; rfl) (fun i c H' Q' hc sm qq => ?_) (fun p5 H5 n5 s5 e5 => ?_)
    · walk_at "cl"
      walk_at "go"
      exact qq _ (Same.refl _)
    have e45 := s5 _ _ e4
    have s25 := Same.via s3 (Same.via s4 s5)
    have s05 := Same.via s02 s25
    walk_at "go"
    rename_i p6 H6 n6 s6 e6
    have s26 := Same.via s25 s6
    have s06 := Same.via s02 s26
    have hb6 := s26 _ _ hb2
    have ht6 := s26 _ _ ht2
    walk_at "go"
    refine ⟨p, v, ps, x + n, rfl, (hL.same s06).at', hs, fun H7 s7 => ?_⟩
    have hb7 := s7 _ _ hb6
    have s27 := Same.via s26 s7
    walk_at "go"
    rename_i p8 H8 n8 s8 e8 p9 H9 n9 s9 e9 p10 H10 n10 s10 e10
    have s610 := Same.via s7 (Same.via s8 (Same.via s9 s10))
    have e610 := s610 _ _ e6
    have ec : ((cuts (lo x ps)).map V.int ++ [V.int x]) ++ ((cuts (hi (x + n) ps)).map fun c => c - n).map V.int = (cuts (clsPs v ps x n)).map V.int := by
      simp [clsPs, cuts]
    have eh : (holds v (lo x ps) ++ [at_ v ps (x + n)]) ++ (hi (x + n) ps).map (·.2) = holds v (clsPs v ps x n) := by
      simp [clsPs, holds]
    rw [ec] at e610
    rw [eh] at e10
    have hv : AllHV v (clsPs v ps x n) := all_clsPs hL.hv
    have hs' : Srt (clsPs v ps x n) := srt_clsPs hs h0
    have hl := len_clsPs (v := v) (ps := ps) (p := x) (n := n) h0
    have s010 := Same.via s06 s610
    refine ⟨p6, p10, v, _, fun x y => decide (x = y), rfl, SqL.of e610, SqL.of e10, by omega, hv.ne, fun H11 p2 n11 s11 hl2 => ?_⟩
    walk_at "go"
    refine q H11 p2 _ _ (Wk.fresh_back s010 n11) (Same.via s010 s11) (done_keep hl2 hs' hv) (Nat.le_trans keepB_len (by omega)) fun y => ?_
    rw [at_keep hs', at_clsPs (o := V.non) hs h0]

theorem ok_stretched {C fI : Addr} (B : Bt mg) (L : LineC K mg C fI) (R_line_of : Rd P w K mg base CX0 3 "line_of" ["cuts", "holds"] (sp_line_of K C)) (D : DefAt K mg "stretched" s_stretched) : Rd P w K mg base CX0 4 "stretched" ["line", "times"] (sp_stretched C) := by
  refine D.ok sc_stretched (fun _ _ _ _ _ _ us hl => match us, hl with | [_, _], _ => rfl) (fun vs H Q E h => ?_) (fun f cdv A outer s H vs Q E hr h => ?_)
  · obtain ⟨p, v, ps, t, rfl, _⟩ := h
    rfl
  · obtain ⟨p, v, ps, t, rfl, hL, h0, h3, hn, q⟩ := h
    have hs := hL.ris.srt
    obtain ⟨dx, lc, lh, hi', hlc, hlh⟩ := id hL.at'
    refine ⟨_, (pss_cons (ps_if (pt_cmpR op_lt (pv 1) pe_int (nomark _)) (pss_one ps_never) pss_nil)
 (pss_one (ps_ret (pe_callR R_line_of (hr.mono (by decide)) rfl pass0 (pa_cons (pe_lc (own := [("cut", 2)]) (g := gName 2) (tt := tYes) (by rfl) sc_stretched.nd (pi_list (pe_fld (pv 0) rfl)) (blkOk_by (own := [("cut", 2)]) (N := N_stretched) (sc := defScope s_stretched) (by decide +kernel)) (fun _ _ _ _ _ => pg_name (i := 2) sc_stretched.nd rfl (by first | exact Or.inl rfl | exact Or.inr rfl)) (fun _ _ _ _ _ => pts_nil) (fun _ _ _ _ _ => (pe_op op_mul (pv 2) (pv 1)))) (pa_cons (pe_fld (pv 0) rfl) pa_nil)))))), ?_⟩
    change Wk.go _ _ [_, _, none] H
    (try dsimp only [Wk.cxK, Wk.cxKn, Wk.cxW, Wk.cxWn, Wk.cxP, Wk.cxPn])
    walk_at "go"
    refine Wk.g_kIfF (by simp; omega) ?_
    walk_at "go"
    refine ⟨p, C, dx, _, _, rfl, hi', L.cl, L.nC, lf_cuts _ _, ?_⟩
    refine Wk.g_kLcLI (fun c => c * t) (SqL.of hlc) (by rw [List.length_map]; omega) (by intro _; rfl) (fun i c H' Q' hc sm qq => ?_) (fun a H1 na s1 ha => ?_)
    · walk_at "cl"
      walk_at "go"
      exact qq _ (Same.refl _)
    have hl1 := s1 _ _ hlh
    walk_at "go"
    refine ⟨p, C, dx, _, _, rfl, s1 _ _ hi', L.cl, L.nH, lf_holds _ _, ?_⟩
    walk_at "go"
    have ec : (cuts ps).map (fun c => c * t) = cuts (strPs ps t) := by simp [strPs, cuts]
    have eh : holds v ps = holds v (strPs ps t) := by simp [strPs, holds]
    rw [ec] at ha
    rw [eh] at hl1
    have hv : AllHV v (strPs ps t) := all_strPs hL.hv
    have hs' : Srt (strPs ps t) := srt_strPs hs h0
    have hl : (strPs ps t).length = ps.length := List.length_map _
    refine ⟨a, lh, v, strPs ps t, fun x y => decide (x = y), rfl, SqL.of ha, SqL.of hl1, by omega, hv.ne, fun H2 p2 n2 s2 hl2 => ?_⟩
    walk_at "go"
    refine q H2 p2 _ _ (Wk.fresh_back s1 n2) (Same.via s1 s2) (done_keep hl2 hs' hv) (Nat.le_trans keepB_len (by omega)) fun y => ?_
    rw [at_keep hs', at_strPs (o := V.non) h0]

theorem ok_done {C fI : Addr} (B : Bt mg) (L : LineC K mg C fI) (R_put : Rd P w K mg base CX0 4 "put" ["line", "start", "end", "value"] (sp_put C)) (R_opened : Rd P w K mg base CX0 4 "opened" ["line", "place", "size"] (sp_opened C)) (R_closed : Rd P w K mg base CX0 4 "closed" ["line", "place", "size"] (sp_closed C)) (R_stretched : Rd P w K mg base CX0 4 "stretched" ["line", "times"] (sp_stretched C)) (D : DefAt K mg "done" s_done) : Rd P w K mg base CX0 5 "done" ["line", "deed"] (sp_done C) := by
  refine D.ok sc_done (fun _ _ _ _ _ _ us hl => match us, hl with | [_, _], _ => rfl) (fun vs H Q E h => ?_) (fun f cdv A outer s H vs Q E hr h => ?_)
  · obtain ⟨p, a, v, ps, d, rfl, _⟩ := h
    rfl
  · obtain ⟨p, a, v, ps, d, rfl, hL, ha, hd, hn, q⟩ := h
    have w1 := w_pp; have w2 := w_op; have w3 := w_oo; have w4 := w_cp; have w5 := w_co; have w6 := w_cc; have w7 := w_sp; have w8 := w_so; have w9 := w_sc; have w10 := w_ss
    refine ⟨_, (pss_cons (ps_if (pt_cmpR (op_eqA hr.units) (pe_ix ix_seq (pv 1) pe_int (fun _ _ => rfl)) pe_str (nomark _)) (pss_one (ps_ret (pe_callR R_put (hr.mono (by decide)) rfl pass0 (pa_cons (pv 0) (pa_cons (pe_ix ix_seq (pv 1) pe_int (fun _ _ => rfl)) (pa_cons (pe_ix ix_seq (pv 1) pe_int (fun _ _ => rfl)) (pa_cons (pe_ix ix_seq (pv 1) pe_int (fun _ _ => rfl)) pa_nil))))))) pss_nil)
 (pss_cons (ps_if (pt_cmpR (op_eqA hr.units) (pe_ix ix_seq (pv 1) pe_int (fun _ _ => rfl)) pe_str (nomark _)) (pss_one (ps_ret (pe_callR R_opened (hr.mono (by decide)) rfl pass0 (pa_cons (pv 0) (pa_cons (pe_ix ix_seq (pv 1) pe_int (fun _ _ => rfl)) (pa_cons (pe_ix ix_seq (pv 1) pe_int (fun _ _ => rfl)) pa_nil)))))) pss_nil)
 (pss_cons (ps_if (pt_cmpR (op_eqA hr.units) (pe_ix ix_seq (pv 1) pe_int (fun _ _ => rfl)) pe_str (nomark _)) (pss_one (ps_ret (pe_callR R_closed (hr.mono (by decide)) rfl pass0 (pa_cons (pv 0) (pa_cons (pe_ix ix_seq (pv 1) pe_int (fun _ _ => rfl)) (pa_cons (pe_ix ix_seq (pv 1) pe_int (fun _ _ => rfl)) pa_nil)))))) pss_nil)
 (pss_cons (ps_if (pt_cmpR (op_eqA hr.units) (pe_ix ix_seq (pv 1) pe_int (fun _ _ => rfl)) pe_str (nomark _)) (pss_one (ps_ret (pe_callR R_stretched (hr.mono (by decide)) rfl pass0 (pa_cons (pv 0) (pa_cons (pe_ix ix_seq (pv 1) pe_int (fun _ _ => rfl)) pa_nil))))) pss_nil)
 (pss_one ps_never))))), ?_⟩
    change Wk.go _ _ [_, _] H
    (try dsimp only [Wk.cxK, Wk.cxKn, Wk.cxW, Wk.cxWn, Wk.cxP, Wk.cxPn])
    cases d with
    | put s e w =>
      simp only [deedT] at ha
      walk_at "go"
      exact ⟨p, v, ps, s, e, w, rfl, hL, hd, hn, q⟩
    | opn x n =>
      simp only [deedT] at ha
      walk_at "go"
      exact ⟨p, v, ps, x, n, rfl, hL, hd, hn, q⟩
    | cls x n =>
      simp only [deedT] at ha
      walk_at "go"
      exact ⟨p, v, ps, x, n, rfl, hL, hd, hn, q⟩
    | str t =>
      simp only [deedT] at ha
      walk_at "go"
      exact ⟨p, v, ps, t, rfl, hL, hd.1, hd.2, hn, q⟩

theorem ok_joined {C fI : Addr} (B : Bt mg) (L : LineC K mg C fI) (R_line_of : Rd P w K mg base CX0 3 "line_of" ["cuts", "holds"] (sp_line_of K C)) (R_value_at : Rd P w K mg base CX0 1 "value_at" ["line", "place"] (sp_value_at C)) (R_law_alike_by : Rd P w K mg base CX0 1 "_law_alike_by" ["one", "other"] sp_alike_by)
    (D : DefAt K mg "joined" s_joined) : ∃ fa, mg "_law_alike_by" = some (.ref fa) ∧ Rd P w K mg base CX0 4 "joined" ["one", "other", "way"] (sp_joined C fa alikeV) := by
  obtain ⟨fa, fda, Fa, ga, ka, ba⟩ := R_law_alike_by
  refine ⟨fa, ga, ?_⟩
  refine D.ok sc_joined (fun _ _ _ _ _ _ us hl => match us, hl with | [_, _, _], _ => rfl) (fun vs H Q E h => ?_) (fun f cdv A outer s H vs Q E hr h => ?_)
  · obtain ⟨p, r, v, u, ps, qs, rfl, _⟩ := h
    rfl
  · obtain ⟨p, r, v, u, ps, qs, rfl, hp, hq, hsp, hsq, lp, lq, fp, fq, q⟩ := h
    refine ⟨_, (pss_cons (ps_set (i := 3) sc_joined.nd rfl (by first | exact Or.inl rfl | exact Or.inr rfl) (pe_callB (call_sortedA rfl) (by rfl) B.sorted (by decide +kernel) (pa_cons (pe_callTy (call_setA rfl) (by rfl) B.set (by decide +kernel) (pa_cons (pe_op op_addA (pe_fld (pv 0) rfl) (pe_fld (pv 1) rfl)) pa_nil)) pa_nil)))
 (pss_cons (ps_set (i := 4) sc_joined.nd rfl (by first | exact Or.inl rfl | exact Or.inr rfl) (pe_lst (pa_cons (pe_callL (i := 2) Fa (hr.mono (by decide)) rfl (by first | exact Or.inl rfl | exact Or.inr rfl) ka ba .nil pass0 (pa_cons (pe_ix ix_seq (pe_fld (pv 0) rfl) pe_int (fun _ _ => rfl)) (pa_cons (pe_ix ix_seq (pe_fld (pv 1) rfl) pe_int (fun _ _ => rfl)) pa_nil))) pa_nil)))
 (pss_cons (ps_for PassesOwn.never rfl (pi_list (pv 3)) (pg_name (i := 5) sc_joined.nd rfl (by first | exact Or.inl rfl | exact Or.inr rfl)) (pss_one (ps_expr (pe_bm PySem.F.plainAttrs_list PySem.F.slot_list_append PySem.F.type_list_append mt_append (pv 4) (pa_cons (pe_callL (i := 2) Fa (hr.mono (by decide)) rfl (by first | exact Or.inl rfl | exact Or.inr rfl) ka ba .nil pass0 (pa_cons (pe_callR R_value_at (hr.mono (by decide)) rfl pass0 (pa_cons (pv 0) (pa_cons (pv 5) pa_nil))) (pa_cons (pe_callR R_value_at (hr.mono (by decide)) rfl pass0 (pa_cons (pv 1) (pa_cons (pv 5) pa_nil))) pa_nil))) pa_nil)))))
 (pss_one (ps_ret (pe_callR R_line_of (hr.mono (by decide)) rfl pass0 (pa_cons (pv 3) (pa_cons (pv 4) pa_nil)))))))), ?_⟩
    change Wk.go _ _ [_, _, _, none, none, none] H
    (try dsimp only [Wk.cxK, Wk.cxKn, Wk.cxW, Wk.cxWn, Wk.cxP, Wk.cxPn])
    obtain ⟨dx, mc, mh, hi, hmc, hmh⟩ := id hp
    obtain ⟨dy, lc, lh, hj, hlc, hlh⟩ := id hq
    have l1 : ((cuts ps).map V.int).length ≤ 400 := by rw [List.length_map, List.length_map]; exact lp
    have l2 : ((cuts qs).map V.int).length ≤ 400 := by rw [List.length_map, List.length_map]; exact lq
    have l3 : (cuts ps ++ cuts qs).length = ps.length + qs.length := by rw [List.length_append, List.length_map, List.length_map]
    walk_at "go"
    refine ⟨p, C, dx, _, _, rfl, hi, L.cl, L.nC, lf_cuts _ _, ?_⟩
    walk_at "go"
    refine ⟨r, C, dy, _, _, rfl, hj, L.cl, L.nC, lf_cuts _ _, ?_⟩
    walk_at "go"
    rename_i z1 H1 n1 s1 e1
    rw [← List.map_append] at e1
    refine Wk.g_set (SqL.of e1) (by omega) fun y c H2 n2 s2 e2 hcl => ?_
    walk_at "go"
    refine Wk.g_sortedset e2 hcl (by omega) fun es z H3 hpw hm hl n3 s3 e3 => ?_
    have s03 := Same.via s1 (Same.via s2 s3)
    have h0p : (holds v ps)[0]? = some v := rfl
    have h0q : (holds u qs)[0]? = some u := rfl
    have hi3 := s03 _ _ hi
    have hj3 := s03 _ _ hj
    have hmh3 := s03 _ _ hmh
    have hlh3 := s03 _ _ hlh
    walk_at "go"
    refine ⟨p, C, dx, _, _, rfl, hi3, L.cl, L.nH, lf_holds _ _, ?_⟩
    walk_at "go"
    refine ⟨r, C, dy, _, _, rfl, hj3, L.cl, L.nH, lf_holds _ _, ?_⟩
    walk_at "go"
    refine ⟨v, u, rfl, fp v List.mem_cons_self, fq u List.mem_cons_self, fun H4 s4 => ?_⟩
    walk_at "go"
    rename_i hd H5 n5 s5 e5
    have s35 := Same.via s4 s5
    have s05 := Same.via s03 s35
    have fhd : H hd = none := Wk.fresh_back (Same.via s03 s4) n5
    have nzh : z ≠ hd := ne_of_none (s4 _ _ e3) n5
    have fz : H z = none := Wk.fresh_back (Same.via s1 s2) n3
    refine Wk.g_kForL (SqL.of (s35 _ _ e3))
      (fun i σ' H' => ∃ (y5 : Option V), σ' = [some (.ref p), some (.ref r), some (.ref fa), some (.ref z), some (.ref hd), y5] ∧ Same H H' ∧ H' z = some (.lst (es.map V.int)) ∧ H' hd = some (.lst (alikeV v u :: (es.take i).map fun e => alikeV (at_ v ps e) (at_ u qs e))))
      ⟨none, rfl, s05, s35 _ _ e3, e5⟩ (fun i σ' H' hP => ?_) (fun i x σ' H' hx hP => ?_) (fun σ' H' hP => ?_)
    · obtain ⟨_, _, _, ez, _⟩ := hP
      exact SqL.of ez
    · obtain ⟨y5, rfl, sH, ez, eh⟩ := hP
      obtain ⟨c, hc, rfl⟩ := int_at hx
      have hi := (List.getElem?_eq_some_iff.mp hc).1
      walk_at "go"
      refine ⟨p, v, ps, c, rfl, hp.same sH, hsp, fun H6 s6 => ?_⟩
      walk_at "go"
      refine ⟨r, u, qs, c, rfl, hq.same (Same.via sH s6), hsq, fun H7 s7 => ?_⟩
      walk_at "go"
      refine ⟨_, _, rfl, fp _ at_mem, fq _ at_mem, fun H8 s8 => ?_⟩
      have s68 := Same.via s6 (Same.via s7 s8)
      have eh8 := s68 _ _ eh
      have hlt : (alikeV v u :: (es.take i).map fun e => alikeV (at_ v ps e) (at_ u qs e)).length < 100000 := by rw [List.length_cons, List.length_map, List.length_take]; omega
      walk_at "go"
      rename_i H9 m9 e9
      refine ⟨_, rfl, Wk.Same.mutd (Same.via sH s68) m9 fhd, by rw [m9 z nzh]; exact s68 _ _ ez, ?_⟩
      rw [e9, List.take_add_one, hc, List.map_append] <;> rfl
    · obtain ⟨y5, rfl, sH, ez, eh⟩ := hP
      rw [List.length_map, List.take_length] at eh
      have hst := steps_both (G := alikeV) (f := at_ v ps) (g := at_ u qs) steps_at steps_at hm
      have hlo := lo_both (G := alikeV) (v := v) (u := u) hm
      have hat := at_table (f := fun e => alikeV (at_ v ps e) (at_ u qs e)) hpw hlo hst
      have hsr := srt_table (f := fun e => alikeV (at_ v ps e) (at_ u qs e)) hpw
      have hfl : AllFlat (alikeV v u) (es.map fun e => (e, alikeV (at_ v ps e) (at_ u qs e))) := all_holds (alikeV_flat _ _) fun p hp => by
        obtain ⟨e, _, rfl⟩ := List.mem_map.mp hp
        exact alikeV_flat _ _
      walk_at "go"
      refine ⟨z, hd, alikeV v u, es.map fun e => (e, alikeV (at_ v ps e) (at_ u qs e)), fun x y => decide (x = y), rfl, SqL.of (by rw [cuts_table (f := fun e => alikeV (at_ v ps e) (at_ u qs e))]; exact ez), SqL.of (by rw [holds_table (f := fun e => alikeV (at_ v ps e) (at_ u qs e))]; exact eh), by rw [List.length_map]; omega, hfl.ne, fun H6 p2 n6 s6 hl2 => ?_⟩
      walk_at "go"
      exact q H6 p2 _ _ (Wk.fresh_back sH n6) (Same.via sH s6) hl2.at (keep_ris hsr) (keep_nrm _ _) hfl.keep (Nat.le_trans keepB_len (by rw [List.length_map]; omega)) fun x => (at_keep hsr x).trans (hat x)

theorem ok_law_cell_at (B : Bt mg) (D : DefAt K mg "_law_cell_at" s_law_cell_at) : Rd P w K mg base CX0 1 "_law_cell_at" ["script", "k"] (sp_law_cell_at K) := by
  refine D.ok sc_law_cell_at (fun _ _ _ _ _ _ us hl => match us, hl with | [_, _], _ => rfl) (fun vs H Q E h => ?_) (fun f cdv A outer s H vs Q E hr h => ?_)
  · obtain ⟨a, ns, k, rfl, _⟩ := h
    rfl
  · obtain ⟨a, ns, k, rfl, hS, q⟩ := h
    refine ⟨_, (pss_cons (ps_if (pt_cmpR op_lt (pv 1) (pe_callB call_lenA (by rfl) B.len (by decide +kernel) (pa_cons (pv 0) pa_nil)) (nomark _)) (pss_one (ps_ret (pe_ix ix_seq (pv 0) (pv 1) (fun _ _ => rfl)))) pss_nil)
 (pss_one (ps_ret pe_int))), ?_⟩
    change Wk.go _ _ [_, _] H
    (try dsimp only [Wk.cxK, Wk.cxKn, Wk.cxW, Wk.cxWn, Wk.cxP, Wk.cxPn])
    repeat walk_at "wk"
    refine g_kIf (fun hb => ?_) (fun hb => ?_)
    · have hb := of_decide_eq_true hb
      have hk : (ns.map V.int)[k]? = some (.int (ns.getD k 0)) := by
        have h1 : k < ns.length := by rw [List.length_map] at hb; omega
        rw [List.getElem?_map, List.getD_eq_getElem?_getD, List.getElem?_eq_getElem h1] <;> rfl
      repeat walk_at "wk"
      exact q
    · have hb := of_decide_eq_false hb
      repeat walk_at "wk"
      have e : ns.getD k 0 = 0 := by
        rw [List.length_map] at hb
        rw [List.getD_eq_getElem?_getD, List.getElem?_eq_none (by omega)] <;> rfl
      rw [e] at q
      exact q

theorem ok_law_names (B : Bt mg) (D : DefAt K mg "_law_names" s_law_names) : Rd P w K mg base CX0 1 "_law_names" ["cell"] sp_law_names := by
  refine D.ok sc_law_names (fun _ _ _ _ _ _ us hl => match us, hl with | [_], _ => rfl) (fun vs H Q E h => ?_) (fun f cdv A outer s H vs Q E hr h => ?_)
  · obtain ⟨i, rfl, _⟩ := h
    rfl
  · obtain ⟨c, rfl, q⟩ := h
    refine ⟨_, (pss_cons (ps_set (i := 1) sc_law_names.nd rfl (by first | exact Or.inl rfl | exact Or.inr rfl) pe_str)
 (pss_cons (ps_set (i := 2) sc_law_names.nd rfl (by first | exact Or.inl rfl | exact Or.inr rfl) (pe_ix ix_seq (pv 1) (pe_op op_mod (pv 0) pe_int) (fun _ _ => rfl)))
 (pss_cons (ps_set (i := 3) sc_law_names.nd rfl (by first | exact Or.inl rfl | exact Or.inr rfl) (pe_op op_addA pe_int (pe_op op_mod (pe_op op_fdiv (pv 0) pe_int) pe_int)))
 (pss_one (ps_ret (pe_lst (pa_cons pe_non (pa_cons (pv 2) (pa_cons (pe_op op_addA (pe_joinA pe_str (pe_lc (own := [("k", 4)]) (g := gName 4) (tt := tYes) (by rfl) sc_law_names.nd (pi_range1 (by rfl) B.range (pa_cons (pv 3) pa_nil)) (blkOk_by (own := [("k", 4)]) (N := N_law_names) (sc := defScope s_law_names) (by decide +kernel)) (fun _ _ _ _ _ => pg_name (i := 4) sc_law_names.nd rfl (by first | exact Or.inl rfl | exact Or.inr rfl)) (fun _ _ _ _ _ => pts_nil) (fun _ _ _ _ _ => (pv 2)))) pe_str) (pa_cons (pe_ix ix_seq (pv 1) (pe_op op_mod (pe_op op_addA (pv 0) pe_int) pe_int) (fun _ _ => rfl)) pa_nil)))))))))), ?_⟩
    change Wk.go _ _ [_, none, none, none, none] H
    (try dsimp only [Wk.cxK, Wk.cxKn, Wk.cxW, Wk.cxWn, Wk.cxP, Wk.cxPn])
    obtain ⟨x, hx, hx2⟩ := letter_at (i := c % 26) (by omega) (by omega)
    obtain ⟨y, hy, hy2⟩ := letter_at (i := (c + 5) % 26) (by omega) (by omega)
    repeat walk_at "wk"
    refine Wk.g_kLcRV (n := (1 + c / 26 % 12).toNat) (fun _ => .str ⟨#[x]⟩) (by omega) (by omega) (by intro _; rfl) (fun i H' Q' hi sm qq => ?_) (fun l H1 nl s1 hl => ?_)
    · walk_at "cl"
      repeat walk_at "wk"
      exact qq _ (Same.refl _)
    · obtain ⟨wl, wj⟩ := word_join (x := x) (n := (1 + c / 26 % 12).toNat) (by omega) (by omega) hx2
      rw [map_range_const, show List.replicate (1 + c / 26 % 12).toNat (V.str ⟨#[x]⟩) = (List.replicate (1 + c / 26 % 12).toNat (⟨#[x]⟩ : Str)).map V.str from by rw [List.map_replicate]] at hl
      have e0 : ("" : Str).length = 0 := by decide +kernel
      refine Wk.g_join (SqL.of hl) ?_ ?_
      · rw [rep_sum, e0, List.length_replicate]
        show (1 + c / 26 % 12).toNat * 1 + _ ≤ _
        omega
      have ha : (Txt.join "" (List.replicate (1 + c / 26 % 12).toNat (⟨#[x]⟩ : Str))).length + ("" : Str).length ≤ 100000 := by
        rw [wl, e0]
        omega
      repeat walk_at "wk"
      exact q _ _ _ _ _ (by walk_at "fr") (by walk_at "sm") (word1 hx2) wj (word1 hy2) (by assumption)

theorem ok_law_deed (B : Bt mg) (D : DefAt K mg "_law_deed" s_law_deed) : Rd P w K mg base CX0 1 "_law_deed" ["one", "two", "names"] (sp_law_deed K) := by
  refine D.ok sc_law_deed (fun _ _ _ _ _ _ us hl => match us, hl with | [_, _, _], _ => rfl) (fun vs H Q E h => ?_) (fun f cdv A outer s H vs Q E hr h => ?_)
  · obtain ⟨a, i, j, n1, n2, n3, n4, rfl, _⟩ := h
    rfl
  · obtain ⟨a, i, j, n1, n2, n3, n4, rfl, hN, v1, v2, v3, v4, q⟩ := h
    refine ⟨_, (pss_cons (ps_set (i := 3) sc_law_deed.nd rfl (by first | exact Or.inl rfl | exact Or.inr rfl) (pe_op op_sub (pe_op op_mod (pe_op op_fdiv (pv 0) pe_int) pe_int) pe_int))
 (pss_cons (ps_set (i := 4) sc_law_deed.nd rfl (by first | exact Or.inl rfl | exact Or.inr rfl) (pe_op op_mod (pv 1) pe_int))
 (pss_cons (ps_if (pt_cmpR (op_eqA hr.units) (pe_op op_mod (pe_op op_fdiv (pv 1) pe_int) pe_int) pe_int (nomark _)) (pss_one (ps_set (i := 4) sc_law_deed.nd rfl (by first | exact Or.inl rfl | exact Or.inr rfl) (pe_op op_addA (pe_op op_pow pe_int pe_int) (pe_op op_mod (pv 1) pe_int)))) pss_nil)
 (pss_cons (ps_if (pt_cmpR (op_eqA hr.units) (pe_op op_mod (pe_op op_fdiv (pv 0) pe_int) pe_int) pe_int (nomark _)) (pss_one (ps_set (i := 3) sc_law_deed.nd rfl (by first | exact Or.inl rfl | exact Or.inr rfl) (pe_op op_sub (pe_op op_mod (pv 0) (pe_op op_pow pe_int pe_int)) (pe_op op_mul pe_int (pe_op op_pow pe_int pe_int))))) pss_nil)
 (pss_cons (ps_if (pt_cmpR (op_eqA hr.units) (pe_op op_mod (pv 0) pe_int) pe_int (nomark _)) (pss_one (ps_ret (pe_tup (pa_cons pe_str (pa_cons (pv 3) (pa_cons (pv 4) pa_nil)))))) pss_nil)
 (pss_cons (ps_if (pt_cmpR (op_eqA hr.units) (pe_op op_mod (pv 0) pe_int) pe_int (nomark _)) (pss_one (ps_ret (pe_tup (pa_cons pe_str (pa_cons (pv 3) (pa_cons (pv 4) pa_nil)))))) pss_nil)
 (pss_cons (ps_if (pt_cmpR (op_eqA hr.units) (pe_op op_mod (pv 0) pe_int) pe_int (nomark _)) (pss_one (ps_ret (pe_tup (pa_cons pe_str (pa_cons (pe_op op_addA pe_int (pe_op op_mod (pv 1) pe_int)) pa_nil))))) pss_nil)
 (pss_cons (ps_set (i := 5) sc_law_deed.nd rfl (by first | exact Or.inl rfl | exact Or.inr rfl) (pe_lst (pa_cons (pv 3) (pa_cons (pe_op op_addA (pv 3) (pv 4)) pa_nil))))
 (pss_cons (ps_if (pt_cmpR (op_eqA hr.units) (pe_op op_mod (pe_op op_fdiv (pv 1) pe_int) pe_int) pe_int (nomark _)) (pss_one (ps_asg pe_non (pg_sub (pv 5) pe_int set_list))) pss_nil)
 (pss_cons (ps_if (pt_cmpR (op_eqA hr.units) (pe_op op_mod (pe_op op_fdiv (pv 1) pe_int) pe_int) pe_int (nomark _)) (pss_one (ps_asg pe_non (pg_sub (pv 5) pe_int set_list))) pss_nil)
 (pss_cons (ps_if (pt_cmpR (op_eqA hr.units) (pe_op op_mod (pe_op op_fdiv (pv 1) pe_int) pe_int) pe_int (nomark _)) (pss_one (ps_asg (pe_op op_sub (pv 3) (pv 4)) (pg_sub (pv 5) pe_int set_list))) pss_nil)
 (pss_cons (ps_if (pt_cmpR (op_eqA hr.units) (pe_op op_mod (pe_op op_fdiv (pv 1) pe_int) pe_int) pe_int (nomark _)) (pss_one (ps_set (i := 5) sc_law_deed.nd rfl (by first | exact Or.inl rfl | exact Or.inr rfl) (pe_lst (pa_cons pe_non (pa_cons pe_non pa_nil))))) pss_nil)
 (pss_one (ps_ret (pe_tup (pa_cons pe_str (pa_cons (pe_ix ix_seq (pv 5) pe_int (fun _ _ => rfl)) (pa_cons (pe_ix ix_seq (pv 5) pe_int (fun _ _ => rfl)) (pa_cons (pe_ix ix_seq (pv 2) (pe_op op_mod (pe_op op_fdiv (pv 1) pe_int) pe_int) (fun _ _ => rfl)) pa_nil))))))))))))))))))), ?_⟩
    change Wk.go _ _ [_, _, _, none, none, none] H
    (try dsimp only [Wk.cxK, Wk.cxKn, Wk.cxW, Wk.cxWn, Wk.cxP, Wk.cxPn])
    obtain ⟨wv, hwv, hww⟩ := nm_at (i := j / 11 % 4) (by omega) (by omega) v1 v2 v3 v4
    walk_at "go"
    refine Wk.g_kIfJ (fun σ' H' => ∃ sz : Int, 0 ≤ sz ∧ σ' = [some (.int i), some (.int j), some (.ref a), some (.int (i / 7 % 25 - 12)), some (.int sz), none] ∧ H' = H) (fun _ N hN => ?_) (fun _ N hN => ?_) fun σ' H' hP => ?_
    · walk_at "go"
      exact hN _ _ ⟨_, Int.add_nonneg (by decide) (Int.emod_nonneg _ (by decide)), rfl, rfl⟩
    · walk_at "go"
      exact hN _ _ ⟨_, Int.emod_nonneg _ (by decide), rfl, rfl⟩
    obtain ⟨sz, hsz, rfl, rfl⟩ := hP
    walk_at "go"
    refine Wk.g_kIfJ (fun σ' H'' => ∃ pl : Int, σ' = [some (.int i), some (.int j), some (.ref a), some (.int pl), some (.int sz), none] ∧ H'' = H') (fun _ N hN => ?_) (fun _ N hN => ?_) fun σ' H'' hP => ?_
    · walk_at "go"
      exact hN _ _ ⟨_, rfl, rfl⟩
    · walk_at "go"
      exact hN _ _ ⟨_, rfl, rfl⟩
    obtain ⟨pl, rfl, rfl⟩ := hP
    walk_at "go"
    refine Wk.g_kIf (fun _ => ?_) (fun _ => ?_)
    · walk_at "go"
      rename_i t H1 n1 s1 e1
      exact q H1 t (.opn pl sz) n1 s1 e1 hsz
    walk_at "go"
    refine Wk.g_kIf (fun _ => ?_) (fun _ => ?_)
    · walk_at "go"
      rename_i t H1 n1 s1 e1
      exact q H1 t (.cls pl sz) n1 s1 e1 hsz
    walk_at "go"
    refine Wk.g_kIf (fun _ => ?_) (fun _ => ?_)
    · walk_at "go"
      rename_i t H1 n1 s1 e1
      exact q H1 t (.str (1 + j % 3)) n1 s1 e1 ⟨by omega, by omega⟩
    walk_at "go"
    rename_i z H1 n1 s1 e1
    refine Wk.g_kIfJ (fun σ' H' => ∃ s e : Option Int, σ' = [some (.int i), some (.int j), some (.ref a), some (.int pl), some (.int sz), some (.ref z)] ∧ Same H'' H' ∧ H' z = some (.lst [optV s, optV e])) (fun _ N hN => ?_) (fun _ N hN => ?_) fun σ' H2 hP => ?_
    · walk_at "go"
      refine Wk.g_setL e1 (Wk.ixN_nat (j := 0) rfl (by simp)) fun H3 m3 e3 => ?_
      exact hN _ _ ⟨none, some (pl + sz), rfl, Wk.Same.mutd s1 m3 n1, e3⟩
    · walk_at "go"
      exact hN _ _ ⟨some pl, some (pl + sz), rfl, s1, e1⟩
    obtain ⟨st, en, rfl, s2, e2⟩ := hP
    walk_at "go"
    refine Wk.g_kIfJ (fun σ' H' => ∃ s e : Option Int, σ' = [some (.int i), some (.int j), some (.ref a), some (.int pl), some (.int sz), some (.ref z)] ∧ Same H'' H' ∧ H' z = some (.lst [optV s, optV e])) (fun _ N hN => ?_) (fun _ N hN => ?_) fun σ' H3 hP => ?_
    · walk_at "go"
      refine Wk.g_setL e2 (Wk.ixN_nat (j := 1) rfl (by simp)) fun H3 m3 e3 => ?_
      exact hN _ _ ⟨st, none, rfl, Wk.Same.mutd s2 m3 n1, e3⟩
    · walk_at "go"
      exact hN _ _ ⟨st, en, rfl, s2, e2⟩
    clear e2 s2
    obtain ⟨st, en, rfl, s2, e2⟩ := hP
    walk_at "go"
    refine Wk.g_kIfJ (fun σ' H' => ∃ s e : Option Int, σ' = [some (.int i), some (.int j), some (.ref a), some (.int pl), some (.int sz), some (.ref z)] ∧ Same H'' H' ∧ H' z = some (.lst [optV s, optV e])) (fun _ N hN => ?_) (fun _ N hN => ?_) fun σ' H4 hP => ?_
    · walk_at "go"
      refine Wk.g_setL e2 (Wk.ixN_nat (j := 1) rfl (by simp)) fun H3 m3 e3 => ?_
      exact hN _ _ ⟨st, some (pl - sz), rfl, Wk.Same.mutd s2 m3 n1, e3⟩
    · walk_at "go"
      exact hN _ _ ⟨st, en, rfl, s2, e2⟩
    clear e2 s2
    obtain ⟨st, en, rfl, s2, e2⟩ := hP
    walk_at "go"
    refine Wk.g_kIfJ (fun σ' H' => ∃ (z : Addr) (s e : Option Int), σ' = [some (.int i), some (.int j), some (.ref a), some (.int pl), some (.int sz), some (.ref z)] ∧ Same H'' H' ∧ H' z = some (.lst [optV s, optV e])) (fun _ N hN => ?_) (fun _ N hN => ?_) fun σ' H5 hP => ?_
    · walk_at "go"
      rename_i z2 H6 n6 s6 e6
      exact hN _ _ ⟨z2, none, none, rfl, Same.via s2 s6, e6⟩
    · walk_at "go"
      exact hN _ _ ⟨z, st, en, rfl, s2, e2⟩
    clear e2 s2
    obtain ⟨z, st, en, rfl, s2, e2⟩ := hP
    have hN2 := s2.seq hN
    have i0 : ([optV st, optV en])[0]? = some (optV st) := rfl
    have i1 : ([optV st, optV en])[1]? = some (optV en) := rfl
    walk_at "go"
    rename_i t H6 n6 s6 e6
    exact q H6 t (.put st en wv) (Wk.fresh_back s2 n6) (Same.via s2 s6) e6 hww

theorem ok_law_deeds (B : Bt mg) (R_law_deed : Rd P w K mg base CX0 1 "_law_deed" ["one", "two", "names"] (sp_law_deed K)) (D : DefAt K mg "_law_deeds" s_law_deeds) : Rd P w K mg base CX0 2 "_law_deeds" ["cells", "names"] (sp_law_deeds K) := by
  refine D.ok sc_law_deeds (fun _ _ _ _ _ _ us hl => match us, hl with | [_, _], _ => rfl) (fun vs H Q E h => ?_) (fun f cdv A outer s H vs Q E hr h => ?_)
  · obtain ⟨a, b, ns, n1, n2, n3, n4, rfl, _⟩ := h
    rfl
  · obtain ⟨a, b, ns, n1, n2, n3, n4, rfl, hA, hN, v1, v2, v3, v4, hn, q⟩ := h
    refine ⟨_, (pss_one (ps_ret (pe_lc (own := [("k", 2)]) (g := gName 2) (tt := tYes) (by rfl) sc_law_deeds.nd (pi_range1 (by rfl) B.range (pa_cons (pe_op op_fdiv (pe_callB call_lenA (by rfl) B.len (by decide +kernel) (pa_cons (pv 0) pa_nil)) pe_int) pa_nil)) (blkOk_by (own := [("k", 2)]) (N := N_law_deeds) (sc := defScope s_law_deeds) (by decide +kernel)) (fun _ _ _ _ _ => pg_name (i := 2) sc_law_deeds.nd rfl (by first | exact Or.inl rfl | exact Or.inr rfl)) (fun _ _ _ _ _ => pts_nil) (fun _ _ _ _ _ => (pe_callR R_law_deed (hr.mono (by decide)) rfl pass0 (pa_cons (pe_ix (ix_seqK (K := K) rfl) (pv 0) (pe_op op_mul pe_int (pv 2)) (fun _ _ => rfl)) (pa_cons (pe_ix (ix_seqK (K := K) rfl) (pv 0) (pe_op op_addA (pe_op op_mul pe_int (pv 2)) pe_int) (fun _ _ => rfl)) (pa_cons (pv 1) pa_nil)))))))), ?_⟩
    change Wk.go _ _ [_, _, none] H
    (try dsimp only [Wk.cxK, Wk.cxKn, Wk.cxW, Wk.cxWn, Wk.cxP, Wk.cxPn])
    walk_at "go"
    refine Wk.g_kLcR (n := ns.length / 2) (by rw [List.length_map]; omega) (by omega) (fun _ v H => ∃ b d, v = V.ref b ∧ H b = some (.tup (deedT d)) ∧ DOk d) (by intro _; rfl) (fun i H' Q' hi sm qq => ?_) (fun l H1 ys nl s1 hl hy el => ?_)
    · walk_at "cl"
      have c0 : (ns.map V.int)[2 * i]? = some (.int (ns.getD (2 * i) 0)) := by
        rw [List.getElem?_map, List.getD_eq_getElem?_getD, List.getElem?_eq_getElem (by omega)] <;> rfl
      have c1 : (ns.map V.int)[2 * i + 1]? = some (.int (ns.getD (2 * i + 1) 0)) := by
        rw [List.getElem?_map, List.getD_eq_getElem?_getD, List.getElem?_eq_getElem (by omega)] <;> rfl
      have a0 : atI (ns.map V.int) (2 * (i : Int)) = some (.int (ns.getD (2 * i) 0)) := Wk.at_nat (by omega) c0
      have a1 : atI (ns.map V.int) (2 * (i : Int) + 1) = some (.int (ns.getD (2 * i + 1) 0)) := Wk.at_nat (by omega) c1
      walk_at "go"
      refine ⟨b, _, _, n1, n2, n3, n4, rfl, sm.seq hN, v1, v2, v3, v4, fun H2 t d n2 s2 e2 hd => ?_⟩
      exact qq _ _ s2 fun B hB sB => ⟨t, d, rfl, hB _ _ n2 e2, hd⟩
    · obtain ⟨as, ds, rfl, h1, h2⟩ := deeds_of ys fun y hy => by
        obtain ⟨i, hi, e⟩ := List.getElem_of_mem hy
        exact el i y (by rw [List.getElem?_eq_getElem hi, e])
      refine q H1 l ds nl s1 ⟨as, hl, h1, h2⟩ ?_
      rw [← h1, ← hy, List.length_map]

theorem ok_law_value (B : Bt mg) (D : DefAt K mg "_law_value" s_law_value) : Rd P w K mg base CX0 1 "_law_value" ["deeds", "place"] sp_law_value := by
  refine D.ok sc_law_value (fun _ _ _ _ _ _ us hl => match us, hl with | [_, _], _ => rfl) (fun vs H Q E h => ?_) (fun f cdv A outer s H vs Q E hr h => ?_)
  · obtain ⟨a, ds, x, rfl, _⟩ := h
    rfl
  · obtain ⟨a, ds, x, rfl, hD, q⟩ := h
    have w1 := w_pp; have w2 := w_op; have w3 := w_oo; have w4 := w_cp; have w5 := w_co; have w6 := w_cc; have w7 := w_sp; have w8 := w_so; have w9 := w_os; have w10 := w_ss; have w11 := w_cs; have w12 := w_oc; have w13 := w_sc
    obtain ⟨as, hA, hl, hall⟩ := id hD
    refine ⟨_, (pss_cons (ps_for PassesOwn.never rfl (pi_reversed (by rfl) B.reversed (pa_cons (pv 0) pa_nil)) (pg_name (i := 2) sc_law_value.nd rfl (by first | exact Or.inl rfl | exact Or.inr rfl)) (pss_one (ps_if (pt_cmpR (op_eqA hr.units) (pe_ix ix_seq (pv 2) pe_int (fun _ _ => rfl)) pe_str (nomark _)) (pss_cons (ps_set (i := 3) sc_law_value.nd rfl (by first | exact Or.inl rfl | exact Or.inr rfl) (pe_or (pe_cmpR op_isN' (pe_ix ix_seq (pv 2) pe_int (fun _ _ => rfl)) pe_non (nomark _)) (pe_one (pe_cmpR op_le (pe_ix ix_seq (pv 2) pe_int (fun _ _ => rfl)) (pv 1) (nomark _)))))
 (pss_one (ps_if (PW.pt (pw_and (pt_val (pv 3)) (pw_and1 (PW.pt (pw_or (pt_cmpR op_isN' (pe_ix ix_seq (pv 2) pe_int (fun _ _ => rfl)) pe_non (nomark _)) (pw_or1 (pt_cmpR op_lt (pv 1) (pe_ix ix_seq (pv 2) pe_int (fun _ _ => rfl)) (nomark _)))))))) (pss_one (ps_ret (pe_ix ix_seq (pv 2) pe_int (fun _ _ => rfl)))) pss_nil))) (pss_one (ps_if (pt_cmpR (op_eqA hr.units) (pe_ix ix_seq (pv 2) pe_int (fun _ _ => rfl)) pe_str (nomark _)) (pss_one (ps_if (pt_cmpR op_ge (pv 1) (pe_op op_addA (pe_ix ix_seq (pv 2) pe_int (fun _ _ => rfl)) (pe_ix ix_seq (pv 2) pe_int (fun _ _ => rfl))) (nomark _)) (pss_one (ps_set (i := 1) sc_law_value.nd rfl (by first | exact Or.inl rfl | exact Or.inr rfl) (pe_op op_sub (pv 1) (pe_ix ix_seq (pv 2) pe_int (fun _ _ => rfl))))) (pss_one (ps_if (pt_cmpR op_ge (pv 1) (pe_ix ix_seq (pv 2) pe_int (fun _ _ => rfl)) (nomark _)) (pss_one (ps_ret pe_non)) pss_nil)))) (pss_one (ps_if (pt_cmpR (op_eqA hr.units) (pe_ix ix_seq (pv 2) pe_int (fun _ _ => rfl)) pe_str (nomark _)) (pss_one (ps_if (pt_cmpR op_ge (pv 1) (pe_ix ix_seq (pv 2) pe_int (fun _ _ => rfl)) (nomark _)) (pss_one (ps_set (i := 1) sc_law_value.nd rfl (by first | exact Or.inl rfl | exact Or.inr rfl) (pe_op op_addA (pv 1) (pe_ix ix_seq (pv 2) pe_int (fun _ _ => rfl))))) pss_nil)) (pss_one (ps_set (i := 1) sc_law_value.nd rfl (by first | exact Or.inl rfl | exact Or.inr rfl) (pe_op op_fdiv (pv 1) (pe_ix ix_seq (pv 2) pe_int (fun _ _ => rfl))))))))))))
 (pss_one (ps_ret pe_non))), ?_⟩
    change Wk.go _ _ [_, _, none, none] H
    (try dsimp only [Wk.cxK, Wk.cxKn, Wk.cxW, Wk.cxWn, Wk.cxP, Wk.cxPn])
    walk_at "go"
    refine Wk.g_kForV (SqL.of hA)
      (fun i σ' H' => ∃ (y : Int) (y2 y3 : Option V), σ' = [some (.ref a), some (.int y), y2, y3] ∧ Same H H' ∧ after .non (ds.take (ds.length - i)) y = after .non ds x)
      ⟨x, none, none, rfl, Same.refl _, by rw [Nat.sub_zero, List.take_length]⟩ (fun i σ' H' hP => ?_) (fun i z σ' H' hi hz hP => ?_) (fun σ' H' hP => ?_)
    · obtain ⟨_, _, _, _, sH, _⟩ := hP
      exact SqL.of (sH _ _ hA)
    · obtain ⟨y, y2, y3, rfl, sH, e⟩ := hP
      rw [List.length_map] at hi hz
      obtain ⟨b, hb, rfl⟩ := Wk.ref_at hz
      have hi2 : ds.length - 1 - i < ds.length := by omega
      obtain ⟨d, hd⟩ : ∃ d, ds[ds.length - 1 - i]? = some d := ⟨_, List.getElem?_eq_getElem hi2⟩
      obtain ⟨ht, hdo⟩ := hall _ b d hb (by rw [hl]; exact hd)
      have ht := sH _ _ ht
      have et : ds.take (ds.length - i) = ds.take (ds.length - (i + 1)) ++ [d] := by
        rw [show ds.length - i = (ds.length - 1 - i) + 1 by omega, List.take_add_one, hd, show ds.length - 1 - i = ds.length - (i + 1) by omega] <;> rfl
      rw [et, after_snoc] at e
      cases d with
      | put s e' w =>
        simp only [deedT] at ht
        rw [back_put, in_LR] at e
        walk_at "go"
        refine Wk.g_kOrVm (inL s y) (fun hb => ?_) (fun hb Q' q' => ?_) (fun H1 s1 => ?_)
        · cases s with
          | none => rfl
          | some z => cases hb
        · cases s with
          | none => cases hb
          | some z =>
            simp only [optV] at *
            walk_at "go"
            exact q' _ (Same.refl _)
        have ht1 := s1 _ _ ht
        walk_at "go"
        refine Wk.g_kAndm (inL s y && inR e' y) (fun hl Q' q' => ?_) (fun hl => by rw [hl]; rfl) (fun H2 s2 => ?_)
        · rw [hl, Bool.true_and] at q'
          walk_at "go"
          cases e' with
          | none =>
            simp only [optV] at *
            walk_at "go"
            exact q' _ (Same.refl _)
          | some z =>
            simp only [optV] at *
            walk_at "go"
            exact q' _ (Same.refl _)
        have s02 := Same.via sH (Same.via s1 s2)
        have ht2 := s2 _ _ ht1
        refine Wk.g_kIf (fun hy => ?_) (fun hy => ?_)
        · rw [if_pos hy] at e
          subst e
          walk_at "go"
          exact q _ s02
        · rw [if_neg (by rw [hy]; exact Bool.false_ne_true)] at e
          walk_at "go"
          exact ⟨y, _, _, rfl, s02, e⟩
      | opn p n =>
        have hdo : 0 ≤ n := hdo
        simp only [deedT] at ht
        rw [back_opn] at e
        walk_at "go"
        refine Wk.g_kIf (fun hy => ?_) (fun hy => ?_)
        · have hy := of_decide_eq_true hy
          rw [if_neg (by omega), if_neg (by omega)] at e
          walk_at "go"
          exact ⟨_, _, _, rfl, sH, e⟩
        · have hy := of_decide_eq_false hy
          walk_at "go"
          refine Wk.g_kIf (fun hz => ?_) (fun hz => ?_)
          · have hz := of_decide_eq_true hz
            rw [if_neg (by omega), if_pos (by omega)] at e
            rw [← e] at q
            walk_at "go"
            exact q _ sH
          · have hz := of_decide_eq_false hz
            rw [if_pos (by omega)] at e
            walk_at "go"
            exact ⟨_, _, _, rfl, sH, e⟩
      | cls p n =>
        have hdo : 0 ≤ n := hdo
        simp only [deedT] at ht
        rw [back_cls] at e
        walk_at "go"
        refine Wk.g_kIf (fun hy => ?_) (fun hy => ?_)
        · have hy := of_decide_eq_true hy
          rw [if_neg (by omega)] at e
          walk_at "go"
          exact ⟨_, _, _, rfl, sH, e⟩
        · have hy := of_decide_eq_false hy
          rw [if_pos (by omega)] at e
          walk_at "go"
          exact ⟨_, _, _, rfl, sH, e⟩
      | str n =>
        have hdo : 1 ≤ n ∧ n ≤ 3 := hdo
        simp only [deedT] at ht
        walk_at "go"
        exact ⟨_, _, _, rfl, sH, e⟩
    · obtain ⟨y, y2, y3, rfl, sH, e⟩ := hP
      rw [List.length_map, hl, Nat.sub_self, List.take_zero] at e
      have e : V.non = after .non ds x := e
      rw [← e] at q
      walk_at "go"
      exact q _ sH

theorem ok_law_edges_behind (B : Bt mg) (D : DefAt K mg "_law_edges_behind" s_law_edges_behind) : Rd P w K mg base CX0 1 "_law_edges_behind" ["edges", "deed"] sp_law_edges_behind := by
  refine D.ok sc_law_edges_behind (fun _ _ _ _ _ _ us hl => match us, hl with | [_, _], _ => rfl) (fun vs H Q E h => ?_) (fun f cdv A outer s H vs Q E hr h => ?_)
  · obtain ⟨a, b, es, d, rfl, _⟩ := h
    rfl
  · obtain ⟨a, b, es, d, rfl, hA, hb, hd, hn, q⟩ := h
    have w1 := w_pp; have w2 := w_op; have w3 := w_oo; have w4 := w_cp; have w5 := w_co; have w6 := w_cc; have w7 := w_sp; have w8 := w_so; have w9 := w_os; have w10 := w_ss; have w11 := w_cs
    refine ⟨_, (pss_cons (ps_if (pt_cmpR (op_eqA hr.units) (pe_ix ix_seq (pv 1) pe_int (fun _ _ => rfl)) pe_str (nomark _)) (pss_one (ps_ret (pe_op op_addA (pv 0) (pe_lc (own := [("end", 4)]) (g := gName 4) (by rfl) sc_law_edges_behind.nd (pi_tup (pe_slice sl_tup (pv 1) (po_some pe_int) (po_some pe_int))) (blkOk_by (own := [("end", 4)]) (N := N_law_edges_behind) (sc := defScope s_law_edges_behind) (by decide +kernel)) (fun _ _ _ _ _ => pg_name (i := 4) sc_law_edges_behind.nd rfl (by first | exact Or.inl rfl | exact Or.inr rfl)) (fun _ _ _ _ _ => (pts_one (pt_cmpR op_notN' (pv 4) pe_non (nomark _)))) (fun _ _ _ _ _ => (pv 4)))))) pss_nil)
 (pss_cons (ps_if (pt_cmpR (op_eqA hr.units) (pe_ix ix_seq (pv 1) pe_int (fun _ _ => rfl)) pe_str (nomark _)) (pss_one (ps_ret (pe_lc (own := [("edge", 5)]) (g := gName 5) (tt := tYes) (by rfl) sc_law_edges_behind.nd (pi_list (pv 0)) (blkOk_by (own := [("edge", 5)]) (N := N_law_edges_behind) (sc := defScope s_law_edges_behind) (by decide +kernel)) (fun _ _ _ _ _ => pg_name (i := 5) sc_law_edges_behind.nd rfl (by first | exact Or.inl rfl | exact Or.inr rfl)) (fun _ _ _ _ _ => pts_nil) (fun _ _ _ _ _ => (pe_op op_mul (pv 5) (pe_ix (ix_seqK (K := K) rfl) (pv 1) pe_int (fun _ _ => rfl))))))) pss_nil)
 (pss_cons (ps_set (i := 2) sc_law_edges_behind.nd rfl (by first | exact Or.inl rfl | exact Or.inr rfl) (pe_ix ix_seq (pv 1) pe_int (fun _ _ => rfl)))
 (pss_cons (ps_if (pt_cmpR (op_eqA hr.units) (pe_ix ix_seq (pv 1) pe_int (fun _ _ => rfl)) pe_str (nomark _)) (pss_cons (ps_setLc (i := 3) (own := [("edge", 5)]) (g := gName 5) (tt := tYes) (by rfl) sc_law_edges_behind.nd rfl rfl (sw_true rfl rfl rfl (by decide +kernel)) (pi_list (pv 0)) (blkOk_by (own := [("edge", 5)]) (N := N_law_edges_behind) (sc := defScope s_law_edges_behind) (by decide +kernel)) (fun _ _ _ _ _ => pg_name (i := 5) sc_law_edges_behind.nd rfl (by first | exact Or.inl rfl | exact Or.inr rfl)) (fun _ _ _ _ _ => pts_nil) (fun _ _ _ _ _ => (pe_ifExp (pt_cmpR op_ge (pv 5) (pv 2) (nomark _)) (pe_op op_addA (pv 5) (pe_ix (ix_seqK (K := K) rfl) (pv 1) pe_int (fun _ _ => rfl))) (pv 5))))
 (pss_one (ps_ret (pe_op op_addA (pv 3) (pe_lst (pa_cons (pv 2) (pa_cons (pe_op op_addA (pv 2) (pe_ix ix_seq (pv 1) pe_int (fun _ _ => rfl))) pa_nil))))))) pss_nil)
 (pss_one (ps_ret (pe_op op_addA (pe_lc (own := [("edge", 5)]) (g := gName 5) (tt := tYes) (by rfl) sc_law_edges_behind.nd (pi_list (pv 0)) (blkOk_by (own := [("edge", 5)]) (N := N_law_edges_behind) (sc := defScope s_law_edges_behind) (by decide +kernel)) (fun _ _ _ _ _ => pg_name (i := 5) sc_law_edges_behind.nd rfl (by first | exact Or.inl rfl | exact Or.inr rfl)) (fun _ _ _ _ _ => pts_nil) (fun _ _ _ _ _ => (pe_callB (call_max2' rfl) (by rfl) B.max (by decide +kernel) (pa_cons (pe_callB (call_min2' rfl) (by rfl) B.min (by decide +kernel) (pa_cons (pv 5) (pa_cons (pv 2) pa_nil))) (pa_cons (pe_op op_sub (pv 5) (pe_ix (ix_seqK (K := K) rfl) (pv 1) pe_int (fun _ _ => rfl))) pa_nil))))) (pe_lst (pa_cons (pv 2) pa_nil))))))))), ?_⟩
    change Wk.go _ _ [_, _, none, none, none, none] H
    (try dsimp only [Wk.cxK, Wk.cxKn, Wk.cxW, Wk.cxWn, Wk.cxP, Wk.cxPn])
    cases d with
    | put s e w =>
      simp only [deedT] at hb
      walk_at "go"
      refine Wk.g_slT (SqT.of hb) (by simp [HT.sIx]) fun z H1 n1 s1 e1 => ?_
      have ez : cutV [.str "put", optV s, optV e, w] (some (1 : Int)) (some (3 : Int)) = [optV s, optV e] := by rfl
      rw [ez] at e1
      refine Wk.g_kLcTF (fun x => !decide (x = .non)) id (SqT.of e1) (by simp) (by intro _; rfl) (fun i x H' Q' hx sm qq => ?_) (fun i x H' Q' hx hb sm qq => ?_) (fun l H2 n2 s2 e2 => ?_)
      · walk_at "cl"
        walk_at "go"
        exact qq _ (Same.refl _)
      · walk_at "cl"
        walk_at "go"
        exact qq _ (Same.refl _)
      have el : (([optV s, optV e]).filter fun x => !decide (x = .non)).map id = (optL s ++ optL e).map V.int := by
        cases s <;> cases e <;> rfl
      rw [el] at e2
      have s02 := Same.via s1 s2
      have hA2 := s02 _ _ hA
      have hlen : (es.map V.int).length + ((optL s ++ optL e).map V.int).length ≤ 100000 := by
        rw [List.length_map, List.length_map, List.length_append]
        cases s <;> cases e <;> simp only [optL, List.length_nil, List.length_cons] <;> omega
      walk_at "go"
      rename_i l3 H3 n3 s3 e3
      rw [← List.map_append] at e3
      exact q H3 l3 (Wk.fresh_back s02 n3) (Same.via s02 s3) e3
    | opn x n =>
      simp only [deedT] at hb
      walk_at "go"
      refine Wk.g_kLcLI (fun c => if c ≥ x then c + n else c) (SqL.of hA) (by omega) (by intro _; rfl) (fun i c H' Q' hc sm qq => ?_) (fun a1 H1 n1 s1 e1 => ?_)
      · walk_at "cl"
        have hb' := sm _ _ hb
        walk_at "go"
        refine Wk.g_kIfE (fun hb => ?_) (fun hb => ?_)
        · have e : (if c ≥ x then c + n else c) = c + n := if_pos (of_decide_eq_true hb)
          simp only [e] at qq
          walk_at "go"
          exact qq _ (Same.refl _)
        · have e : (if c ≥ x then c + n else c) = c := if_neg (of_decide_eq_false hb)
          simp only [e] at qq
          walk_at "go"
          exact qq _ (Same.refl _)
      have hb1 := s1 _ _ hb
      walk_at "go"
      rename_i l3 H3 n3 s3 e3 l4 H4 n4 s4 e4
      have s14 := Same.via s1 (Same.via s3 s4)
      refine q H4 l4 (Wk.fresh_back (Same.via s1 s3) n4) s14 ?_
      rw [e4]
      simp [edges]
    | cls x n =>
      simp only [deedT] at hb
      walk_at "go"
      refine Wk.g_kLcLI (fun c => max (min c x) (c - n)) (SqL.of hA) (by omega) (by intro _; rfl) (fun i c H' Q' hc sm qq => ?_) (fun a1 H1 n1 s1 e1 => ?_)
      · walk_at "cl"
        have hb' := sm _ _ hb
        walk_at "go"
        exact qq _ (Same.refl _)
      walk_at "go"
      rename_i l3 H3 n3 s3 e3 l4 H4 n4 s4 e4
      have s14 := Same.via s1 (Same.via s3 s4)
      refine q H4 l4 (Wk.fresh_back (Same.via s1 s3) n4) s14 ?_
      rw [e4]
      simp [edges]
    | str t =>
      simp only [deedT] at hb
      walk_at "go"
      have ht : 1 ≤ t ∧ t ≤ 3 := hd
      refine Wk.g_kLcLI (fun c => c * t) (SqL.of hA) (by omega) (by intro _; rfl) (fun i c H' Q' hc sm qq => ?_) (fun a1 H1 n1 s1 e1 => ?_)
      · walk_at "cl"
        have hb' := sm _ _ hb
        walk_at "go"
        exact qq _ (Same.refl _)
      exact q H1 a1 n1 s1 e1

theorem ok_law_edges (B : Bt mg) (R_law_edges_behind : Rd P w K mg base CX0 1 "_law_edges_behind" ["edges", "deed"] sp_law_edges_behind) (D : DefAt K mg "_law_edges" s_law_edges) : Rd P w K mg base CX0 2 "_law_edges" ["deeds"] sp_law_edges := by
  refine D.ok sc_law_edges (fun _ _ _ _ _ _ us hl => match us, hl with | [_], _ => rfl) (fun vs H Q E h => ?_) (fun f cdv A outer s H vs Q E hr h => ?_)
  · obtain ⟨a, ds, rfl, _⟩ := h
    rfl
  · obtain ⟨a, ds, rfl, hD, hn, q⟩ := h
    obtain ⟨as, hA, hl, hall⟩ := id hD
    refine ⟨_, (pss_cons (ps_set (i := 1) sc_law_edges.nd rfl (by first | exact Or.inl rfl | exact Or.inr rfl) (pe_lst pa_nil))
 (pss_cons (ps_for PassesOwn.never rfl (pi_list (pv 0)) (pg_name (i := 2) sc_law_edges.nd rfl (by first | exact Or.inl rfl | exact Or.inr rfl)) (pss_one (ps_set (i := 1) sc_law_edges.nd rfl (by first | exact Or.inl rfl | exact Or.inr rfl) (pe_callR R_law_edges_behind (hr.mono (by decide)) rfl pass0 (pa_cons (pv 1) (pa_cons (pv 2) pa_nil))))))
 (pss_one (ps_ret (pe_callB (call_sortedA rfl) (by rfl) B.sorted (by decide +kernel) (pa_cons (pe_callTy (call_setA rfl) (by rfl) B.set (by decide +kernel) (pa_cons (pv 1) pa_nil)) pa_nil)))))), ?_⟩
    change Wk.go _ _ [_, none, none] H
    (try dsimp only [Wk.cxK, Wk.cxKn, Wk.cxW, Wk.cxWn, Wk.cxP, Wk.cxPn])
    walk_at "go"
    rename_i p1 H1 n1 s1 e1
    refine Wk.g_kForL (SqL.of (s1 _ _ hA))
      (fun i σ' H' => ∃ (z : Addr) (y2 : Option V), σ' = [some (.ref a), some (.ref z), y2] ∧ Same H H' ∧ H' z = some (.lst ((edgesAll (ds.take i)).map V.int)))
      ⟨p1, none, rfl, s1, by rw [List.take_zero]; exact e1⟩ (fun i σ' H' hP => ?_) (fun i x σ' H' hx hP => ?_) (fun σ' H' hP => ?_)
    · obtain ⟨_, _, _, sH, _⟩ := hP
      exact SqL.of (sH _ _ hA)
    · obtain ⟨z, y2, rfl, sH, ez⟩ := hP
      obtain ⟨b, hb, rfl⟩ := Wk.ref_at hx
      have hi : i < ds.length := by have := (List.getElem?_eq_some_iff.mp hb).1; omega
      obtain ⟨d, hd⟩ : ∃ d, ds[i]? = some d := ⟨_, List.getElem?_eq_getElem hi⟩
      obtain ⟨ht, hdo⟩ := hall i b d hb hd
      have hle := len_edgesAll _ (ds.take i) rfl
      rw [List.length_take] at hle
      walk_at "go"
      refine ⟨z, b, _, d, rfl, ez, sH _ _ ht, hdo, by omega, fun H3 z3 n3 s3 e3 => ?_⟩
      walk_at "go"
      refine ⟨z3, _, rfl, Same.via sH s3, ?_⟩
      rw [e3, List.take_add_one, hd, ← edgesAll_snoc] <;> rfl
    · obtain ⟨z, y2, rfl, sH, ez⟩ := hP
      rw [List.length_map, hl, List.take_length] at ez
      have hle := len_edgesAll _ ds rfl
      walk_at "go"
      refine Wk.g_set (SqL.of ez) (by omega) fun r c G2 m2 u2 f2 hcl => ?_
      walk_at "go"
      refine Wk.g_sortedset f2 hcl (by omega) fun es z H1 hp hm hl n1 v1 e1 => ?_
      refine q H1 z es (Wk.fresh_back (Same.via sH u2) n1) (Same.via sH (Same.via u2 v1)) e1 hp ?_ (by omega)
      have hst := steps_all (o := V.non) _ ds rfl fun d hd => (hD.all d hd).ok
      exact fun x y hxy hx => hst x y hxy fun e he => hx e ((hm e).mpr he)

theorem ok_law_due (B : Bt mg) (R_law_edges : Rd P w K mg base CX0 2 "_law_edges" ["deeds"] sp_law_edges) (R_law_value : Rd P w K mg base CX0 1 "_law_value" ["deeds", "place"] sp_law_value) (D : DefAt K mg "_law_due" s_law_due) : Rd P w K mg base CX0 3 "_law_due" ["deeds"] sp_law_due := by
  refine D.ok sc_law_due (fun _ _ _ _ _ _ us hl => match us, hl with | [_], _ => rfl) (fun vs H Q E h => ?_) (fun f cdv A outer s H vs Q E hr h => ?_)
  · obtain ⟨a, ds, rfl, _⟩ := h
    rfl
  · obtain ⟨a, ds, rfl, hD, hn, q⟩ := h
    have hback : ∀ x, HV (after .non ds x) := after_hv _ ds rfl hD.all
    refine ⟨_, (pss_cons (ps_set (i := 1) sc_law_due.nd rfl (by first | exact Or.inl rfl | exact Or.inr rfl) (pe_callR R_law_edges (hr.mono (by decide)) rfl pass0 (pa_cons (pv 0) pa_nil)))
 (pss_cons (ps_if (pt_cmpR (op_eqA hr.units) (pv 1) (pe_lst pa_nil) (nomark _)) (pss_one (ps_ret (pe_tup (pa_cons (pe_lst pa_nil) (pa_cons (pe_lst (pa_cons (pe_callR R_law_value (hr.mono (by decide)) rfl pass0 (pa_cons (pv 0) (pa_cons pe_int pa_nil))) pa_nil)) pa_nil))))) pss_nil)
 (pss_cons (ps_set (i := 2) sc_law_due.nd rfl (by first | exact Or.inl rfl | exact Or.inr rfl) (pe_lst pa_nil))
 (pss_cons (ps_set (i := 3) sc_law_due.nd rfl (by first | exact Or.inl rfl | exact Or.inr rfl) (pe_lst (pa_cons (pe_callR R_law_value (hr.mono (by decide)) rfl pass0 (pa_cons (pv 0) (pa_cons (pe_op op_sub (pe_ix ix_seq (pv 1) pe_int (fun _ _ => rfl)) pe_int) pa_nil))) pa_nil)))
 (pss_cons (ps_for PassesOwn.never rfl (pi_list (pv 1)) (pg_name (i := 4) sc_law_due.nd rfl (by first | exact Or.inl rfl | exact Or.inr rfl)) (pss_cons (ps_set (i := 5) sc_law_due.nd rfl (by first | exact Or.inl rfl | exact Or.inr rfl) (pe_callR R_law_value (hr.mono (by decide)) rfl pass0 (pa_cons (pv 0) (pa_cons (pv 4) pa_nil))))
 (pss_one (ps_if (pt_cmpR (op_neA hr.units) (pv 5) (pe_ix ix_seq (pv 3) (pe_un un_neg pe_int) (fun _ _ => rfl)) (nomark _)) (pss_cons (ps_expr (pe_bm PySem.F.plainAttrs_list PySem.F.slot_list_append PySem.F.type_list_append mt_append (pv 2) (pa_cons (pv 4) pa_nil)))
 (pss_one (ps_expr (pe_bm PySem.F.plainAttrs_list PySem.F.slot_list_append PySem.F.type_list_append mt_append (pv 3) (pa_cons (pv 5) pa_nil))))) pss_nil))))
 (pss_one (ps_ret (pe_tup (pa_cons (pv 2) (pa_cons (pv 3) pa_nil)))))))))), ?_⟩
    change Wk.go _ _ [_, none, none, none, none, none] H
    (try dsimp only [Wk.cxK, Wk.cxKn, Wk.cxW, Wk.cxWn, Wk.cxP, Wk.cxPn])
    walk_at "go"
    refine ⟨a, ds, rfl, hD, hn, fun H1 z es n1 s1 e1 hp hst hle => ?_⟩
    walk_at "go"
    rename_i y1 H2 n2 s2 e2
    have s02 := Same.via s1 s2
    have e12 := s2 _ _ e1
    refine Wk.g_eqD (d := .list (es.map .int)) (e := .list (([] : List Int).map .int)) (dp_ints (SqL.of e12)) (.lst (SqL.of e2) .nil) ((sh_lints _).ok (by decide)) ((sh_lints _).ok (by decide)) ?_
    rw [eqv_list, eqva_ints]
    walk_at "go"
    refine Wk.g_kIf (fun hz => ?_) (fun hz => ?_)
    · have hes := of_decide_eq_true hz
      subst hes
      walk_at "go"
      rename_i p1 H3 n3 s3 e3
      refine ⟨a, ds, 0, rfl, hD.same (Same.via s02 s3), fun H4 s4 => ?_⟩
      walk_at "go"
      rename_i p2 H5 n5 s5 e5 u H6 n6 s6 e6
      have s26 := Same.via s3 (Same.via s4 (Same.via s5 s6))
      refine q H6 u p1 p2 (after .non ds 0) [] (Wk.fresh_back s02 (Wk.fresh_back (Same.via s3 (Same.via s4 s5)) n6)) (Same.via s02 s26) ⟨e6, s6 _ _ (s5 _ _ (s4 _ _ e3)), s6 _ _ e5⟩ List.Pairwise.nil True.intro (fun x hx => by rw [List.mem_singleton.mp hx]; exact hback 0) (Nat.zero_le _) fun x => ?_
      show after .non ds 0 = after .non ds x
      rcases Int.le_total 0 x with y | y
      · exact hst 0 x y fun _ h => nomatch h
      · exact (hst x 0 y fun _ h => nomatch h).symm
    have hes := of_decide_eq_false hz
    obtain ⟨e0, r, rfl⟩ : ∃ e0 r, es = e0 :: r := by
      cases es with
      | nil => exact absurd rfl hes
      | cons e0 r => exact ⟨e0, r, rfl⟩
    have hfirst : ∀ e ∈ e0 :: r, e0 - 1 < e := fun e he => by
      rcases List.mem_cons.mp he with y | y
      · omega
      · have := (List.pairwise_cons.mp hp).1 e y
        omega
    have h0 : (((e0 :: r).map V.int))[0]? = some (.int e0) := rfl
    walk_at "go"
    rename_i p1 H3 n3 s3 e3
    have e13 := s3 _ _ e12
    walk_at "go"
    refine ⟨a, ds, e0 - 1, rfl, hD.same (Same.via s02 s3), fun H4 s4 => ?_⟩
    walk_at "go"
    rename_i p2 H5 n5 s5 e5
    have s35 := Same.via s4 s5
    have s25 := Same.via s3 s35
    have s05 := Same.via s02 s25
    have e35 := s35 _ _ e3
    have n12 : p1 ≠ p2 := ne_of_none (s4 _ _ e3) n5
    have g1 : H p1 = none := Wk.fresh_back s02 n3
    have g2 : H p2 = none := Wk.fresh_back (Same.via s02 (Same.via s3 s4)) n5
    have nz1 : z ≠ p1 := ne_of_none e12 n3
    have nz2 : z ≠ p2 := ne_of_none ((Same.via s3 s4) _ _ e12) n5
    generalize hes2 : e0 :: r = es at *
    refine Wk.g_kForL (SqL.of (s25 _ _ e12))
      (fun i σ' H' => ∃ (y6 y7 : Option V) (acc : List (Int × V)) (last : V), σ' = [some (.ref a), some (.ref z), some (.ref p1), some (.ref p2), y6, y7] ∧ Same H H' ∧ H' z = some (.lst (es.map V.int)) ∧ H' p1 = some (.lst ((cuts acc).map V.int)) ∧ H' p2 = some (.lst (holds (after .non ds (e0 - 1)) acc)) ∧
        (holds (after .non ds (e0 - 1)) acc)[acc.length]? = some last ∧ HV last ∧ acc.length ≤ i ∧ acc ++ walkE (after .non ds) last (es.drop i) = walkE (after .non ds) (after .non ds (e0 - 1)) es)
      ⟨none, none, [], _, rfl, s05, s25 _ _ e12, e35, e5, rfl, hback _, Nat.zero_le _, rfl⟩ (fun i σ' H' hP => ?_) (fun i x σ' H' hx hP => ?_) (fun σ' H' hP => ?_)
    · obtain ⟨_, _, _, _, _, _, ez, _⟩ := hP
      exact SqL.of ez
    · obtain ⟨y6, y7, acc, last, rfl, sH, ez, ec, eh, hlast, hvl, hacc, hk⟩ := hP
      obtain ⟨e, he, rfl⟩ := int_at hx
      obtain ⟨hi, he2⟩ := List.getElem?_eq_some_iff.mp he
      rw [List.drop_eq_getElem_cons hi, he2, walkE] at hk
      have hl1 : atI (holds (after .non ds (e0 - 1)) acc) (-1) = some last := by
        rw [last_hold hlast]
        exact atI_last _ _
      walk_at "go"
      refine ⟨a, ds, e, rfl, hD.same sH, fun H6 s6 => ?_⟩
      have ec5 := s6 _ _ ec
      have eh5 := s6 _ _ eh
      have s06 := Same.via sH s6
      walk_at "go"
      refine Wk.g_neV ((hback e).scal hvl) ?_
      walk_at "go"
      refine Wk.g_kIf (fun hb => ?_) (fun hb => ?_)
      · have hb : after .non ds e ≠ last := by
          intro z
          rw [decide_eq_true z] at hb
          cases hb
        rw [if_neg hb] at hk
        walk_at "go"
        rename_i H7 m7 e7 H8 m8 e8
        have hz8 : H8 z = some (.lst (es.map V.int)) := by rw [m8 z nz2, m7 z nz1]; exact s6 _ _ ez
        refine ⟨_, _, acc ++ [(e, after .non ds e)], _, rfl, Wk.Same.mutd (Wk.Same.mutd s06 m7 g1) m8 g2, hz8, ?_, ?_, ?_, hback e, by rw [List.length_append, List.length_singleton]; omega, by rw [List.append_assoc]; exact hk⟩
        · rw [m8 p1 n12, e7, cuts_app, List.map_append] <;> rfl
        · rw [e8, holds_app]
        · rw [holds_app, List.getElem?_append_right (by simp [holds]), List.length_append, List.length_singleton] <;> simp [holds]
      · have hb : after .non ds e = last := by
          cases hd : decide (after .non ds e = last) with
          | true => exact of_decide_eq_true hd
          | false => rw [hd] at hb; cases hb
        rw [if_pos hb] at hk
        walk_at "go"
        exact ⟨_, _, acc, last, rfl, s06, s6 _ _ ez, ec5, eh5, hlast, hvl, by omega, hk⟩
    · obtain ⟨y6, y7, acc, last, rfl, sH, ez, ec, eh, hlast, hvl, hacc, hk⟩ := hP
      rw [List.length_map, List.drop_length, walkE, List.append_nil] at hk
      subst hk
      walk_at "go"
      rename_i u H5 n5 s5 e5
      have wl := walkE_len (f := after .non ds) (es := es) (v := after .non ds (e0 - 1))
      exact q H5 u p1 p2 _ _ (Wk.fresh_back sH n5) (Same.via sH s5) ⟨e5, s5 _ _ ec, s5 _ _ eh⟩ (walkE_ris hp) walkE_nrm (walkE_val hback) (by omega) (at_walk hp (lo_of hst hfirst) hst)

theorem ok_law_whole (B : Bt mg) (D : DefAt K mg "_law_whole" s_law_whole) : Rd P w K mg base CX0 1 "_law_whole" ["found"] sp_law_whole := by
  refine D.ok sc_law_whole (fun _ _ _ _ _ _ us hl => match us, hl with | [_], _ => rfl) (fun vs H Q E h => ?_) (fun f cdv A outer s H vs Q E hr h => ?_)
  · obtain ⟨i, rfl, _⟩ := h
    rfl
  · obtain ⟨i, rfl, q⟩ := h
    refine ⟨_, (pss_one (ps_ret (pe_and (pe_callB call_isiA (by rfl) B.isinstance (by decide +kernel) (pa_cons (pv 0) (pa_cons (pe_bltn (by rfl) B.int (by decide +kernel) (v := .ty "int") rfl) pa_nil))) (pe_one (pe_not (pe_callB call_isiA (by rfl) B.isinstance (by decide +kernel) (pa_cons (pv 0) (pa_cons (pe_bltn (by rfl) B.bool (by decide +kernel) (v := .ty "bool") rfl) pa_nil)))))))), ?_⟩
    change Wk.go _ _ [_] H
    (try dsimp only [Wk.cxK, Wk.cxKn, Wk.cxW, Wk.cxWn, Wk.cxP, Wk.cxPn])
    repeat walk_at "wk"
    refine g_kAndV (fun _ => ?_) (fun z => nomatch z)
    repeat walk_at "wk"
    exact q

theorem ok_law_held (B : Bt mg) (D : DefAt K mg "_law_held" s_law_held) : Rd P w K mg base CX0 1 "_law_held" ["found", "due"] sp_law_held := by
  refine D.ok sc_law_held (fun _ _ _ _ _ _ us hl => match us, hl with | [_, _], _ => rfl) (fun vs H Q E h => ?_) (fun f cdv A outer s H vs Q E hr h => ?_)
  · obtain ⟨v, rfl, _⟩ := h
    rfl
  · obtain ⟨v, rfl, hv, q⟩ := h
    refine ⟨_, (pss_cons (ps_if (pt_cmpR op_isN' (pv 1) pe_non (nomark _)) (pss_one (ps_ret (pe_cmpR op_isN' (pv 0) pe_non (nomark _)))) pss_nil)
 (pss_one (ps_ret (pe_and (pe_callB call_isiA (by rfl) B.isinstance (by decide +kernel) (pa_cons (pv 0) (pa_cons (pe_bltn (by rfl) B.str (by decide +kernel) (v := .ty "str") rfl) pa_nil))) (pe_one (pe_cmpR (op_eqA hr.units) (pv 0) (pv 1) (nomark _))))))), ?_⟩
    change Wk.go _ _ [_, _] H
    (try dsimp only [Wk.cxK, Wk.cxKn, Wk.cxW, Wk.cxWn, Wk.cxP, Wk.cxPn])
    rcases hv with rfl | ⟨z, hz, rfl⟩
    · repeat walk_at "wk"
      exact q
    · repeat walk_at "wk"
      refine g_kAndV (fun _ => ?_) (fun z => nomatch z)
      repeat walk_at "wk"
      rw [decide_eq_true (rfl : z = z)]
      exact q

theorem ok_law_at (B : Bt mg) (D : DefAt K mg "_law_at" s_law_at) : Rd P w K mg base CX0 1 "_law_at" ["told", "place"] (sp_law_at) := by
  refine D.ok sc_law_at (fun _ _ _ _ _ _ us hl => match us, hl with | [_, _], _ => rfl) (fun vs H Q E h => ?_) (fun f cdv A outer s H vs Q E hr h => ?_)
  · obtain ⟨t, lc, lh, v, ps, x, rfl, _⟩ := h
    rfl
  · obtain ⟨t, lc, lh, v, ps, x, rfl, ⟨ht, hc, hh⟩, hn, q⟩ := h
    refine ⟨_, (pss_cons (ps_set (i := 2) sc_law_at.nd rfl (by first | exact Or.inl rfl | exact Or.inr rfl) (pe_ix ix_seq (pe_ix ix_seq (pv 0) pe_int (fun _ _ => rfl)) pe_int (fun _ _ => rfl)))
 (pss_cons (ps_for PassesOwn.never rfl (pi_range1 (by rfl) B.range (pa_cons (pe_callB call_lenA (by rfl) B.len (by decide +kernel) (pa_cons (pe_ix ix_seq (pv 0) pe_int (fun _ _ => rfl)) pa_nil)) pa_nil)) (pg_name (i := 3) sc_law_at.nd rfl (by first | exact Or.inl rfl | exact Or.inr rfl)) (pss_one (ps_if (pt_cmpR op_le (pe_ix ix_seq (pe_ix ix_seq (pv 0) pe_int (fun _ _ => rfl)) (pv 3) (fun _ _ => rfl)) (pv 1) (nomark _)) (pss_one (ps_set (i := 2) sc_law_at.nd rfl (by first | exact Or.inl rfl | exact Or.inr rfl) (pe_ix ix_seq (pe_ix ix_seq (pv 0) pe_int (fun _ _ => rfl)) (pe_op op_addA (pv 3) pe_int) (fun _ _ => rfl)))) pss_nil)))
 (pss_one (ps_ret (pv 2))))), ?_⟩
    change Wk.go _ _ [_, _, none, none] H
    (try dsimp only [Wk.cxK, Wk.cxKn, Wk.cxW, Wk.cxWn, Wk.cxP, Wk.cxPn])
    have h0 : (holds v ps)[0]? = some v := rfl
    have hlen : ((cuts ps).map V.int).length = ps.length := by rw [List.length_map, List.length_map]
    walk_at "go"
    refine Wk.g_kForR (n := ps.length) (by rw [hlen]) (by omega)
      (fun i σ' H' => ∃ (y3 : Option V) (last : V), σ' = [some (.ref t), some (.int x), some last, y3] ∧ Same H H' ∧ at_ last (ps.drop i) x = at_ v ps x)
      ⟨none, v, rfl, Same.refl _, rfl⟩ (fun i σ' H' hi hP => ?_) (fun σ' H' hP => ?_)
    · obtain ⟨y3, last, rfl, sH, e⟩ := hP
      obtain ⟨⟨c, h⟩, hp⟩ : ∃ p, ps[i]? = some p := ⟨_, List.getElem?_eq_getElem hi⟩
      rw [drop_at hp, at_cons] at e
      have hcc : ((cuts ps).map V.int)[i]? = some (.int c) := by rw [List.getElem?_map, List.getElem?_map, hp] <;> rfl
      have hhh : (holds v ps)[i + 1]? = some h := hold_at hp
      have ht' := sH _ _ ht
      have hc' := sH _ _ hc
      have hh' := sH _ _ hh
      walk_at "go"
      refine Wk.g_kIf (fun hb => ?_) (fun hb => ?_)
      · rw [if_pos (of_decide_eq_true hb)] at e
        walk_at "go"
        exact ⟨_, _, rfl, sH, e⟩
      · rw [if_neg (of_decide_eq_false hb)] at e
        walk_at "go"
        exact ⟨_, _, rfl, sH, e⟩
    · obtain ⟨y3, last, rfl, sH, e⟩ := hP
      rw [List.drop_length] at e
      have e : last = at_ v ps x := e
      subst e
      walk_at "go"
      exact q _ sH

theorem ok_law_runs (B : Bt mg) (R_law_at : Rd P w K mg base CX0 1 "_law_at" ["told", "place"] sp_law_at) (D : DefAt K mg "_law_runs" s_law_runs) : Rd P w K mg base CX0 2 "_law_runs" ["told", "start", "end"] sp_law_runs := by
  refine D.ok sc_law_runs (fun _ _ _ _ _ _ us hl => match us, hl with | [_, _, _], _ => rfl) (fun vs H Q E h => ?_) (fun f cdv A outer s H vs Q E hr h => ?_)
  · obtain ⟨t, lc, lh, v, ps, s, e, rfl, _⟩ := h
    rfl
  · obtain ⟨t, lc, lh, v, ps, st, en, rfl, T, hf, hn, q⟩ := h
    refine ⟨_, (pss_cons (ps_set (i := 3) sc_law_runs.nd rfl (by first | exact Or.inl rfl | exact Or.inr rfl) (pe_lst pa_nil))
 (pss_cons (ps_set (i := 4) sc_law_runs.nd rfl (by first | exact Or.inl rfl | exact Or.inr rfl) (pe_op op_addA (pe_lst (pa_cons (pv 1) pa_nil)) (pe_lc (own := [("cut", 8)]) (g := gName 8) (by rfl) sc_law_runs.nd (pi_list (pe_callB (call_sortedA rfl) (by rfl) B.sorted (by decide +kernel) (pa_cons (pe_callTy (call_setA rfl) (by rfl) B.set (by decide +kernel) (pa_cons (pe_ix ix_seq (pv 0) pe_int (fun _ _ => rfl)) pa_nil)) pa_nil))) (blkOk_by (own := [("cut", 8)]) (N := N_law_runs) (sc := defScope s_law_runs) (by decide +kernel)) (fun _ _ _ _ _ => pg_name (i := 8) sc_law_runs.nd rfl (by first | exact Or.inl rfl | exact Or.inr rfl)) (fun _ _ _ _ _ => (pts_one (pt_chain op_lt op_lt (pv 1) (pv 8) (pv 2)))) (fun _ _ _ _ _ => (pv 8)))))
 (pss_cons (ps_if (pt_cmpR op_le (pv 2) (pv 1) (nomark _)) (pss_one (ps_set (i := 4) sc_law_runs.nd rfl (by first | exact Or.inl rfl | exact Or.inr rfl) (pe_lst pa_nil))) pss_nil)
 (pss_cons (ps_for PassesOwn.never rfl (pi_range1 (by rfl) B.range (pa_cons (pe_callB call_lenA (by rfl) B.len (by decide +kernel) (pa_cons (pv 4) pa_nil)) pa_nil)) (pg_name (i := 5) sc_law_runs.nd rfl (by first | exact Or.inl rfl | exact Or.inr rfl)) (pss_cons (ps_set (i := 6) sc_law_runs.nd rfl (by first | exact Or.inl rfl | exact Or.inr rfl) (pv 2))
 (pss_cons (ps_if (pt_cmpR op_lt (pe_op op_addA (pv 5) pe_int) (pe_callB call_lenA (by rfl) B.len (by decide +kernel) (pa_cons (pv 4) pa_nil)) (nomark _)) (pss_one (ps_set (i := 6) sc_law_runs.nd rfl (by first | exact Or.inl rfl | exact Or.inr rfl) (pe_ix ix_seq (pv 4) (pe_op op_addA (pv 5) pe_int) (fun _ _ => rfl)))) pss_nil)
 (pss_cons (ps_set (i := 7) sc_law_runs.nd rfl (by first | exact Or.inl rfl | exact Or.inr rfl) (pe_callR R_law_at (hr.mono (by decide)) rfl pass0 (pa_cons (pv 0) (pa_cons (pe_ix ix_seq (pv 4) (pv 5) (fun _ _ => rfl)) pa_nil))))
 (pss_one (ps_if (PW.pt (pw_and (pt_cmpR (op_neA hr.units) (pv 3) (pe_lst pa_nil) (nomark _)) (pw_and1 (pt_cmpR (op_eqA hr.units) (pe_ix ix_seq (pe_ix ix_seq (pv 3) (pe_un un_neg pe_int) (fun _ _ => rfl)) pe_int (fun _ _ => rfl)) (pv 7) (nomark _))))) (pss_one (ps_asg (pe_tup (pa_cons (pe_ix ix_seq (pe_ix ix_seq (pv 3) (pe_un un_neg pe_int) (fun _ _ => rfl)) pe_int (fun _ _ => rfl)) (pa_cons (pv 6) (pa_cons (pv 7) pa_nil)))) (pg_sub (pv 3) (pe_un un_neg pe_int) set_list))) (pss_one (ps_expr (pe_bm PySem.F.plainAttrs_list PySem.F.slot_list_append PySem.F.type_list_append mt_append (pv 3) (pa_cons (pe_tup (pa_cons (pe_ix ix_seq (pv 4) (pv 5) (fun _ _ => rfl)) (pa_cons (pv 6) (pa_cons (pv 7) pa_nil)))) pa_nil))))))))))
 (pss_one (ps_ret (pv 3))))))), ?_⟩
    change Wk.go _ _ [_, _, _, none, none, none, none, none, none] H
    (try dsimp only [Wk.cxK, Wk.cxKn, Wk.cxW, Wk.cxWn, Wk.cxP, Wk.cxPn])
    obtain ⟨ht, hc, hh⟩ := id T
    walk_at "go"
    rename_i z H1 n1 s1 e1 p2 H2 n2 s2 e2
    refine Wk.g_set (SqL.of ((Same.via s1 s2) _ _ hc)) (by rw [List.length_map]; omega) fun r c H3 n3 s3 e3 hcl => ?_
    walk_at "go"
    refine Wk.g_sortedset e3 hcl (by rw [List.length_map]; omega) fun es es' H4 hp hm hl n4 s4 e4 => ?_
    rw [List.length_map] at hl
    refine Wk.g_kLcLIF (fun c => decide (st < c) && decide (c < en)) id (SqL.of e4) (by omega) (by intro _; rfl) (fun i c H' Q' hc sm qq => ?_) (fun i c H' Q' hc hb sm qq => ?_) (fun ml H5 n5 s5 e5 => ?_)
    · walk_at "cl"
      walk_at "go"
      refine Wk.g_kChainm (decide (st < c) && decide (c < en)) (fun hb Q'' q'' => ?_) (fun hb => by rw [hb]; rfl) (fun H3 s3 => ?_)
      · rw [hb, Bool.true_and] at q''
        walk_at "go"
        exact q'' _ (Same.refl _)
      · walk_at "go"
        exact qq _ s3
    · walk_at "cl"
      walk_at "go"
      exact qq _ (Same.refl _)
    rw [List.map_id] at e5
    have fl := List.length_filter_le (fun c => decide (st < c) && decide (c < en)) es
    have e25 := s5 _ _ (s4 _ _ (s3 _ _ e2))
    walk_at "go"
    rename_i el H6 n6 s6 e6
    have s26 : Same H2 H6 := Same.via s3 (Same.via s4 (Same.via s5 s6))
    have s16 : Same H1 H6 := Same.via s2 s26
    -- the edges
    refine Wk.g_kIfJ (fun σ' H' => ∃ (ed : Addr) (ds : List Int), σ' = [some (.ref t), some (.int st), some (.int en), some (.ref z), some (.ref ed), none, none, none, none] ∧ Same H1 H' ∧ H' ed = some (.lst (ds.map V.int)) ∧ (H ed = none ∧ ed ≠ z) ∧ ds.length ≤ ps.length + 1 ∧
        ((en ≤ st ∧ ds = []) ∨ (st < en ∧ (∃ r, ds = st :: r) ∧ ds.Pairwise (· < ·) ∧ (∀ d ∈ ds, st ≤ d ∧ d < en) ∧ ∀ c ∈ cuts ps, st < c → c < en → c ∈ ds))) (fun hb N hN => ?_) (fun hb N hN => ?_) (fun σ' H7 hP => ?_)
    · have hb := of_decide_eq_true hb
      walk_at "go"
      rename_i ed H8 n8 s8 e8
      have e18 := (Same.via s2 (Same.via s3 (Same.via s4 (Same.via s5 (Same.via s6 s8))))) _ _ e1
      exact hN _ _ ⟨ed, [], rfl, Same.via s16 s8, e8, ⟨Wk.fresh_back (Same.via s1 s16) n8, fun z' => by rw [z'] at n8; rw [(s16 _ _ e1)] at n8; cases n8⟩, Nat.zero_le _, .inl ⟨hb, rfl⟩⟩
    · have hb := of_decide_eq_false hb
      walk_at "go"
      refine hN _ _ ⟨el, st :: es.filter fun c => decide (st < c) && decide (c < en), rfl, s16, by rw [e6]; simp, ⟨Wk.fresh_back (Same.via s1 (Same.via s2 (Same.via s3 (Same.via s4 s5)))) n6, fun z' => ?_⟩, by rw [List.length_cons]; omega, .inr ⟨by omega, ⟨_, rfl⟩, ?_, ?_, ?_⟩⟩
      · have := (Same.via s2 (Same.via s3 (Same.via s4 s5))) _ _ e1
        rw [z', this] at n6
        cases n6
      · refine List.pairwise_cons.mpr ⟨fun c hc => ?_, hp.sublist List.filter_sublist⟩
        have := (List.mem_filter.mp hc).2
        rw [Bool.and_eq_true, decide_eq_true_iff, decide_eq_true_iff] at this
        exact this.1
      · intro d hd
        rcases List.mem_cons.mp hd with y | y
        · omega
        · have := (List.mem_filter.mp y).2
          rw [Bool.and_eq_true, decide_eq_true_iff, decide_eq_true_iff] at this
          omega
      · intro c hc h1 h2
        exact List.mem_cons_of_mem _ (List.mem_filter.mpr ⟨(hm c).mpr hc, by rw [decide_eq_true h1, decide_eq_true h2] <;> rfl⟩)
    obtain ⟨ed, ds, rfl, s7, e7, ⟨fed, nez⟩, hdl, hds⟩ := hP
    have s07 := Same.via s1 s7
    walk_at "go"
    refine Wk.g_kForR (n := ds.length) (by rw [List.length_map]) (by omega)
      (fun i σ' H' => ∃ (y5 y6 y7 : Option V) (R : List Run), σ' = [some (.ref t), some (.int st), some (.int en), some (.ref z), some (.ref ed), y5, y6, y7, none] ∧ Same H H' ∧ H' ed = some (.lst (ds.map V.int)) ∧ RunsAt H' z R.reverse ∧ R.length ≤ i ∧
        (st < en → Rv (at_ v ps) st (ds.getD i en) R))
      ⟨none, none, none, [], rfl, s07, e7, TupsAt.nil (s7 _ _ e1), Nat.zero_le _, fun h => ?_⟩ (fun i σ' H' hi hP => ?_) (fun σ' H' hP => ?_)
    · rcases hds with ⟨h1, _⟩ | ⟨_, ⟨r, rfl⟩, _⟩
      · omega
      · exact rfl
    · obtain ⟨y5, y6, y7, R, rfl, sH, ez, hR, hRl, hv⟩ := hP
      obtain ⟨hse, _, hpw, hin, hcs⟩ : st < en ∧ (∃ r, ds = st :: r) ∧ ds.Pairwise (· < ·) ∧ (∀ d ∈ ds, st ≤ d ∧ d < en) ∧ ∀ c ∈ cuts ps, st < c → c < en → c ∈ ds := by
        rcases hds with ⟨_, h2⟩ | h
        · rw [h2] at hi; simp at hi
        · exact h
      have hv := hv hse
      obtain ⟨d, hd⟩ : ∃ d, ds[i]? = some d := ⟨_, List.getElem?_eq_getElem hi⟩
      have hdm := hin d (List.mem_of_getElem? hd)
      have hgd : ds.getD i en = d := by rw [List.getD_eq_getElem?_getD, hd] <;> rfl
      rw [hgd] at hv
      have hde : (ds.map V.int)[i]? = some (.int d) := by rw [List.getElem?_map, hd] <;> rfl
      obtain ⟨u, hu⟩ : ∃ u, u = ds.getD (i + 1) en := ⟨_, rfl⟩
      have hdu : d < u := by
        rw [hu, List.getD_eq_getElem?_getD]
        cases h : ds[i + 1]? with
        | none => exact hdm.2
        | some c =>
          obtain ⟨a1, a2⟩ := List.getElem?_eq_some_iff.mp h
          obtain ⟨b1, b2⟩ := List.getElem?_eq_some_iff.mp hd
          have h3 := List.pairwise_iff_getElem.mp hpw i (i + 1) b1 a1 (Nat.lt_succ_self i)
          rw [a2, b2] at h3
          exact h3
      have hue : u ≤ en := by
        rw [hu, List.getD_eq_getElem?_getD]
        cases h : ds[i + 1]? with
        | none => exact Int.le_refl _
        | some c => exact Int.le_of_lt (hin c (List.mem_of_getElem? h)).2
      have hconst : ∀ x, d ≤ x → x < u → at_ v ps x = at_ v ps d := fun x h1 h2 => (steps_at d x h1 fun c hc => by
        by_cases g1 : c ≤ d
        · exact .inl g1
        · by_cases g2 : x < c
          · exact .inr g2
          · exfalso
            have hcd := hcs c hc (by omega) (by omega)
            obtain ⟨j, hj, ej⟩ := List.getElem_of_mem hcd
            obtain ⟨b1, b2⟩ := List.getElem?_eq_some_iff.mp hd
            have hij : i < j := by
              rcases Nat.lt_or_ge i j with y | y
              · exact y
              · exfalso
                rcases Nat.lt_or_ge j i with y2 | y2
                · have := List.pairwise_iff_getElem.mp hpw j i hj b1 y2
                  omega
                · have : j = i := by omega
                  subst this
                  omega
            rw [List.getD_eq_getElem?_getD, List.getElem?_eq_getElem (show i + 1 < ds.length by omega)] at hu
            have hu : u = ds[i + 1]'(by omega) := hu
            rcases Nat.lt_or_ge (i + 1) j with y | y
            · have := List.pairwise_iff_getElem.mp hpw (i + 1) j (by omega) hj y
              omega
            · have : j = i + 1 := by omega
              subst this
              omega).symm
      walk_at "go"
      refine Wk.g_kIfJ (fun σ' H'' => σ' = [some (.ref t), some (.int st), some (.int en), some (.ref z), some (.ref ed), some (.int (i : Int)), some (.int u), y7, none] ∧ H'' = H') (fun hb N hN => ?_) (fun hb N hN => ?_) (fun σ' H8 hP => ?_)
      · have hb := of_decide_eq_true hb
        rw [List.length_map] at hb
        have h1 : i + 1 < ds.length := by omega
        have hu1 : ds[i + 1]? = some u := by rw [hu, List.getD_eq_getElem?_getD, List.getElem?_eq_getElem h1] <;> rfl
        have hue : (ds.map V.int)[i + 1]? = some (.int u) := by rw [List.getElem?_map, hu1] <;> rfl
        walk_at "go"
        exact hN _ _ ⟨rfl, rfl⟩
      · have hb := of_decide_eq_false hb
        rw [List.length_map] at hb
        have hu1 : u = en := by rw [hu, List.getD_eq_getElem?_getD, List.getElem?_eq_none (by omega)] <;> rfl
        rw [hu1] at hN
        walk_at "go"
        exact hN _ _ ⟨rfl, rfl⟩
      obtain ⟨rfl, rfl⟩ := hP
      walk_at "go"
      refine ⟨t, lc, lh, v, ps, d, rfl, T.same sH, hn, fun H9 s9 => ?_⟩
      have sH9 := Same.via sH s9
      have ez9 := s9 _ _ ez
      have hR9 := hR.same s9
      have hzn : H z = none := n1
      have hfl : ∀ q ∈ R.reverse, Flat q.2.2 := fun q hq => by
        obtain ⟨x, hx⟩ := rv_val hv q (List.mem_reverse.mp hq)
        rw [← hx]
        exact hf _ at_mem
      obtain ⟨as, ha, hal, hall⟩ := id hR9
      rw [List.length_map, List.length_reverse] at hal
      walk_at "go"
      rename_i y1 H10 m10 u10 f10
      have hR10 := hR9.same u10
      have ez10 := u10 _ _ ez9
      have sH10 := Same.via sH9 u10
      refine Wk.g_neD (dp_runs hR10 hfl) (.lst (SqL.of f10) .nil) ((sh_runs hfl).ok (by decide)) ((sh_list (sha_nil 0)).ok (by decide)) ?_
      rw [eqv_list, eqva_runs_nil]
      walk_at "go"
      cases R with
      | nil =>
        refine Wk.g_kAndF rfl ?_
        refine Wk.g_kIfF rfl ?_
        have ha10 : H10 z = some (.lst []) := by
          have : as = [] := List.length_eq_zero_iff.mp hal
          rw [this] at ha
          exact u10 _ _ ha
        walk_at "go"
        rename_i b H11 n11 s11 e11 H12 m12 e12
        have hbz : b ≠ z := (ne_of_none ha10 n11).symm
        refine ⟨_, _, _, [(d, u, at_ v ps d)], rfl, Wk.Same.mutd (Same.via sH10 s11) m12 hzn, by rw [m12 ed nez]; exact s11 _ _ ez10, ?_, by rw [List.length_singleton]; omega, fun _ => ?_⟩
        · exact TupsAt.push (as := []) (xs := []) rfl (fun i b x e => by simp at e) e12 (by rw [m12 b hbz]; exact e11)
        · rw [← hu]
          have hv : d = st := hv
          subst hv
          exact rv_one hdu hconst
      | cons qq R =>
        rw [show decide ((qq :: R).reverse = []) = false from decide_eq_false (by simp)]
        refine Wk.g_kAndT rfl ?_
        rw [List.reverse_cons, List.map_append] at hR10
        obtain ⟨as2, b2, ha2, hb2, hal2, hall2⟩ := TupsAt.snoc (x := runT qq) hR10
        have hqf : Flat qq.2.2 := hfl qq (List.mem_reverse.mpr List.mem_cons_self)
        have hvf : Flat (at_ v ps d) := hf _ at_mem
        have hb2' := hb2
        simp only [runT] at hb2'
        have al : atI (as2.map V.ref ++ [V.ref b2]) (-1) = some (.ref b2) := atI_last _ _
        walk_at "go"
        refine Wk.g_eqV (hqf.scal hvf) ?_
        walk_at "go"
        have hlen2 : as2.length = R.length := by rw [hal2, List.length_map, List.length_reverse]
        refine Wk.g_kIf (fun hb => ?_) (fun hb => ?_)
        · have hb := of_decide_eq_true hb
          walk_at "go"
          rename_i b H11 n11 s11 e11
          refine Wk.g_setL (s11 _ _ ha2) (ixN_last (by simp)) fun H12 m12 e12 => ?_
          have hbz : b ≠ z := (ne_of_none ha2 n11).symm
          have es2 : (as2.map V.ref ++ [V.ref b2]).set ((as2.map V.ref ++ [V.ref b2]).length - 1) (V.ref b) = as2.map V.ref ++ [V.ref b] := by
            rw [List.length_append, List.length_singleton, Nat.add_sub_cancel, List.set_append_right _ _ (Nat.le_refl _), Nat.sub_self] <;> rfl
          rw [es2] at e12
          refine ⟨_, _, _, (qq.1, u, at_ v ps d) :: R, rfl, Wk.Same.mutd (Same.via sH10 s11) m12 hzn, by rw [m12 ed nez]; exact s11 _ _ ez10, ?_, by simp only [List.length_cons] at hRl ⊢; omega, fun _ => ?_⟩
          · show TupsAt H12 z (((qq.1, u, at_ v ps d) :: R).reverse.map runT)
            rw [List.reverse_cons, List.map_append]
            refine TupsAt.push hal2 (fun i c x e1 e2 => ?_) e12 (by rw [m12 b hbz]; exact e11)
            have h3 := s11 _ _ (hall2 i c x e1 e2)
            rw [m12 c (fun hcz => by rw [hcz, s11 _ _ ha2] at h3; cases h3)]
            exact h3
          · rw [← hu]
            obtain ⟨q1, q2, q3⟩ := qq
            have hb : q3 = at_ v ps d := hb
            subst hb
            exact rv_grow hv hdu hconst
        · have hb := of_decide_eq_false hb
          have hlt : (as2.map V.ref ++ [V.ref b2]).length < 100000 := by rw [List.length_append, List.length_singleton, List.length_map, hlen2]; simp only [List.length_cons] at hRl; omega
          walk_at "go"
          rename_i b H11 n11 s11 e11 H12 m12 e12
          have hbz : b ≠ z := (ne_of_none ha2 n11).symm
          have e12' : H12 z = some (.lst ((as2 ++ [b2]).map V.ref ++ [V.ref b])) := by rw [e12, List.map_append] <;> rfl
          refine ⟨_, _, _, (d, u, at_ v ps d) :: qq :: R, rfl, Wk.Same.mutd (Same.via sH10 s11) m12 hzn, by rw [m12 ed nez]; exact s11 _ _ ez10, ?_, by simp only [List.length_cons] at hRl ⊢; omega, fun _ => ?_⟩
          · show TupsAt H12 z (((d, u, at_ v ps d) :: qq :: R).reverse.map runT)
            rw [List.reverse_cons, List.map_append]
            refine TupsAt.push (as := as2 ++ [b2]) (by rw [List.length_append, hlen2, List.length_map, List.length_reverse] <;> rfl) (fun i c x e1 e2 => ?_) e12' (by rw [m12 b hbz]; exact e11)
            rw [List.reverse_cons, List.map_append] at e2
            have hh3 : H10 c = some (.tup x) := by
              by_cases hic : i < as2.length
              · rw [List.getElem?_append_left hic] at e1
                rw [List.getElem?_append_left (by rw [List.length_map, List.length_reverse]; omega)] at e2
                exact hall2 i c x e1 e2
              · have hie : i = as2.length := by
                  have := (List.getElem?_eq_some_iff.mp e1).1
                  rw [List.length_append, List.length_singleton] at this
                  omega
                subst hie
                rw [List.getElem?_append_right (Nat.le_refl _), Nat.sub_self] at e1
                rw [List.getElem?_append_right (by rw [List.length_map, List.length_reverse]; omega), List.length_map, List.length_reverse, hlen2, Nat.sub_self] at e2
                cases Option.some.inj e1
                cases Option.some.inj e2
                exact hb2
            have h3 := s11 _ _ hh3
            rw [m12 c (fun hcz => by rw [hcz, s11 _ _ ha2] at h3; cases h3)]
            exact h3
          · rw [← hu]
            exact rv_else hv hdu hconst hb
    · obtain ⟨y5, y6, y7, R, rfl, sH, ez, hR, hRl, hv⟩ := hP
      walk_at "go"
      refine q H' z R n1 sH hR ?_ (by omega)
      unfold RunsOf
      by_cases hse : en ≤ st
      · rw [if_pos hse]
        rcases hds with ⟨_, h2⟩ | h
        · rw [h2] at hRl
          exact List.length_eq_zero_iff.mp (Nat.le_zero.mp hRl)
        · omega
      · rw [if_neg hse]
        have := hv (by omega)
        rw [List.getD_eq_getElem?_getD, List.getElem?_eq_none (Nat.le_refl _)] at this
        exact this

theorem ok_law_longest (B : Bt mg) (D : DefAt K mg "_law_longest" s_law_longest) : Rd P w K mg base CX0 1 "_law_longest" ["due", "value"] sp_law_longest := by
  refine D.ok sc_law_longest (fun _ _ _ _ _ _ us hl => match us, hl with | [_, _], _ => rfl) (fun vs H Q E h => ?_) (fun f cdv A outer s H vs Q E hr h => ?_)
  · obtain ⟨a, L, u, rfl, _⟩ := h
    rfl
  · obtain ⟨a, L, u, rfl, hR, hfl, hu, q⟩ := h
    refine ⟨_, (pss_cons (ps_set (i := 2) sc_law_longest.nd rfl (by first | exact Or.inl rfl | exact Or.inr rfl) pe_non)
 (pss_cons (ps_for PassesOwn.never rfl (pi_list (pv 0)) (pg_name (i := 3) sc_law_longest.nd rfl (by first | exact Or.inl rfl | exact Or.inr rfl)) (pss_cons (ps_set (i := 4) sc_law_longest.nd rfl (by first | exact Or.inl rfl | exact Or.inr rfl) (pe_op op_sub (pe_ix ix_seq (pv 3) pe_int (fun _ _ => rfl)) (pe_ix ix_seq (pv 3) pe_int (fun _ _ => rfl))))
 (pss_one (ps_if (PW.pt (pw_and (pt_cmpR (op_eqA hr.units) (pe_ix ix_seq (pv 3) pe_int (fun _ _ => rfl)) (pv 1) (nomark _)) (pw_and1 (PW.pt (pw_or (pt_cmpR op_isN' (pv 2) pe_non (nomark _)) (pw_or1 (pt_cmpR op_gt (pv 4) (pe_ix ix_seq (pv 2) pe_int (fun _ _ => rfl)) (nomark _)))))))) (pss_one (ps_set (i := 2) sc_law_longest.nd rfl (by first | exact Or.inl rfl | exact Or.inr rfl) (pe_tup (pa_cons (pe_ix ix_seq (pv 3) pe_int (fun _ _ => rfl)) (pa_cons (pv 4) pa_nil))))) pss_nil))))
 (pss_one (ps_ret (pv 2))))), ?_⟩
    change Wk.go _ _ [_, _, none, none, none] H
    (try dsimp only [Wk.cxK, Wk.cxKn, Wk.cxW, Wk.cxWn, Wk.cxP, Wk.cxPn])
    walk_at "go"
    obtain ⟨as, ha, hal, hall⟩ := id hR
    rw [List.length_map] at hal
    refine Wk.g_kForL (SqL.of ha)
      (fun i σ' H' => ∃ (bv : V) (y4 y5 : Option V), σ' = [some (.ref a), some u, some bv, y4, y5] ∧ Same H H' ∧ BestAt H' bv (longF u (L.take i)))
      ⟨.non, none, none, rfl, Same.refl _, rfl⟩ (fun i σ' H' hP => ?_) (fun i x σ' H' hx hP => ?_) (fun σ' H' hP => ?_)
    · obtain ⟨_, _, _, _, sH, _⟩ := hP
      exact SqL.of (sH _ _ ha)
    · obtain ⟨bv, y4, y5, rfl, sH, hB⟩ := hP
      obtain ⟨b, hb, rfl⟩ := Wk.ref_at hx
      have hi : i < L.length := by have := (List.getElem?_eq_some_iff.mp hb).1; omega
      obtain ⟨d, hd⟩ : ∃ d, L[i]? = some d := ⟨_, List.getElem?_eq_getElem hi⟩
      have ht := sH _ _ (hall i b (runT d) hb (by rw [List.getElem?_map, hd] <;> rfl))
      simp only [runT] at ht
      have hstep : longF u (L.take (i + 1)) = longStep u (longF u (L.take i)) d := by
        rw [List.take_add_one, hd]
        show longF u (L.take i ++ [d]) = _
        unfold longF
        rw [List.foldl_append] <;> rfl
      walk_at "go"
      refine Wk.g_eqV ((hfl d (List.mem_of_getElem? hd)).scal hu) ?_
      walk_at "go"
      cases hbest : longF u (L.take i) with
      | none =>
        rw [hbest] at hB hstep
        have hB : bv = .non := hB
        subst hB
        refine Wk.g_kAnd (fun hb => ?_) (fun hb => ?_)
        · walk_at "go"
          rename_i t2 H2 n2 s2 e2
          refine ⟨_, _, _, rfl, Same.via sH s2, ?_⟩
          rw [hstep, longStep, hb]
          exact ⟨t2, rfl, e2⟩
        · walk_at "go"
          refine ⟨_, _, _, rfl, sH, ?_⟩
          rw [hstep, longStep, hb]
          exact rfl
      | some bb =>
        obtain ⟨b1, b2⟩ := bb
        rw [hbest] at hB hstep
        obtain ⟨t0, rfl, ht0⟩ := id hB
        refine Wk.g_kAnd (fun hb => ?_) (fun hb => ?_)
        · walk_at "go"
          refine Wk.g_kIf (fun hb2 => ?_) (fun hb2 => ?_)
          · walk_at "go"
            rename_i t2 H2 n2 s2 e2
            refine ⟨_, _, _, rfl, Same.via sH s2, ?_⟩
            rw [hstep, longStep, hb]
            show BestAt H2 _ (if (true && decide (d.2.1 - d.1 > b2)) = true then _ else _)
            rw [hb2]
            exact ⟨t2, rfl, e2⟩
          · walk_at "go"
            refine ⟨_, _, _, rfl, sH, ?_⟩
            rw [hstep, longStep, hb]
            show BestAt H' _ (if (true && decide (d.2.1 - d.1 > b2)) = true then _ else _)
            rw [hb2]
            exact hB
        · walk_at "go"
          refine ⟨_, _, _, rfl, sH, ?_⟩
          rw [hstep, longStep, hb]
          exact hB
    · obtain ⟨bv, y4, y5, rfl, sH, hB⟩ := hP
      rw [List.length_map, hal, List.take_length] at hB
      walk_at "go"
      exact q _ bv sH hB

theorem ok_law_room (B : Bt mg) (R_law_at : Rd P w K mg base CX0 1 "_law_at" ["told", "place"] sp_law_at) (D : DefAt K mg "_law_room" s_law_room) : Rd P w K mg base CX0 2 "_law_room" ["told", "value", "place", "size"] sp_law_room := by
  refine D.ok sc_law_room (fun _ _ _ _ _ _ us hl => match us, hl with | [_, _, _, _], _ => rfl) (fun vs H Q E h => ?_) (fun f cdv A outer s H vs Q E hr h => ?_)
  · obtain ⟨t, lc, lh, v, ps, u, x, n, rfl, _⟩ := h
    rfl
  · obtain ⟨t, lc, lh, v, ps, u, x, n, rfl, T, hn, hf, hu, hn1, q⟩ := h
    refine ⟨_, (pss_cons (ps_set (i := 4) sc_law_room.nd rfl (by first | exact Or.inl rfl | exact Or.inr rfl) (pe_op op_addA (pe_lst (pa_cons (pv 2) pa_nil)) (pe_lc (own := [("cut", 7)]) (g := gName 7) (by rfl) sc_law_room.nd (pi_list (pe_callB (call_sortedA rfl) (by rfl) B.sorted (by decide +kernel) (pa_cons (pe_callTy (call_setA rfl) (by rfl) B.set (by decide +kernel) (pa_cons (pe_ix ix_seq (pv 0) pe_int (fun _ _ => rfl)) pa_nil)) pa_nil))) (blkOk_by (own := [("cut", 7)]) (N := N_law_room) (sc := defScope s_law_room) (by decide +kernel)) (fun _ _ _ _ _ => pg_name (i := 7) sc_law_room.nd rfl (by first | exact Or.inl rfl | exact Or.inr rfl)) (fun _ _ _ _ _ => (pts_one (pt_cmpR op_gt (pv 7) (pv 2) (nomark _)))) (fun _ _ _ _ _ => (pv 7)))))
 (pss_cons (ps_set (i := 5) sc_law_room.nd rfl (by first | exact Or.inl rfl | exact Or.inr rfl) pe_non)
 (pss_cons (ps_for PassesOwn.never rfl (pi_range1 (by rfl) B.range (pa_cons (pe_callB call_lenA (by rfl) B.len (by decide +kernel) (pa_cons (pv 4) pa_nil)) pa_nil)) (pg_name (i := 6) sc_law_room.nd rfl (by first | exact Or.inl rfl | exact Or.inr rfl)) (pss_cons (ps_if (pt_cmpR (op_neA hr.units) (pe_callR R_law_at (hr.mono (by decide)) rfl pass0 (pa_cons (pv 0) (pa_cons (pe_ix ix_seq (pv 4) (pv 6) (fun _ _ => rfl)) pa_nil))) (pv 1) (nomark _)) (pss_one (ps_set (i := 5) sc_law_room.nd rfl (by first | exact Or.inl rfl | exact Or.inr rfl) pe_non)) (pss_one (ps_if (pt_cmpR op_isN' (pv 5) pe_non (nomark _)) (pss_one (ps_set (i := 5) sc_law_room.nd rfl (by first | exact Or.inl rfl | exact Or.inr rfl) (pe_ix ix_seq (pv 4) (pv 6) (fun _ _ => rfl)))) pss_nil)))
 (pss_one (ps_if (PW.pt (pw_and (pt_cmpR op_notN' (pv 5) pe_non (nomark _)) (pw_and1 (PW.pt (pw_or (pt_cmpR (op_eqA hr.units) (pe_op op_addA (pv 6) pe_int) (pe_callB call_lenA (by rfl) B.len (by decide +kernel) (pa_cons (pv 4) pa_nil)) (nomark _)) (pw_or1 (pt_cmpR op_ge (pe_op op_sub (pe_ix ix_seq (pv 4) (pe_op op_addA (pv 6) pe_int) (fun _ _ => rfl)) (pv 5)) (pv 3) (nomark _)))))))) (pss_one (ps_ret (pv 5))) pss_nil))))
 (pss_one (ps_ret pe_non))))), ?_⟩
    change Wk.go _ _ [_, _, _, _, none, none, none, none] H
    (try dsimp only [Wk.cxK, Wk.cxKn, Wk.cxW, Wk.cxWn, Wk.cxP, Wk.cxPn])
    obtain ⟨ht, hc, hh⟩ := id T
    have l1 : ((cuts ps).map V.int).length ≤ 1000 := by rw [List.length_map, List.length_map]; exact hn
    have l1' : (cuts ps).length ≤ 1000 := by rw [List.length_map]; exact hn
    walk_at "go"
    rename_i z1 H1 n1 s1 e1
    refine Wk.g_set (SqL.of (s1 _ _ hc)) l1' fun r c H3 n3 s3 e3 hcl => ?_
    walk_at "go"
    refine Wk.g_sortedset e3 hcl l1' fun es es' H4 hp hm hl n4 s4 e4 => ?_
    refine Wk.g_kLcLIF (fun c => decide (x < c)) id (SqL.of e4) (by omega) (by intro _; rfl) (fun i c H' Q' hc sm qq => ?_) (fun i c H' Q' hc hb sm qq => ?_) (fun ml H5 n5 s5 e5 => ?_)
    · walk_at "cl"
      walk_at "go"
      exact qq _ (Same.refl _)
    · walk_at "cl"
      walk_at "go"
      exact qq _ (Same.refl _)
    rw [List.map_id] at e5
    have fl := List.length_filter_le (fun c => decide (x < c)) es
    have e15 := s5 _ _ (s4 _ _ (s3 _ _ e1))
    walk_at "go"
    rename_i el H6 n6 s6 e6
    have s06 : Same H H6 := Same.via s1 (Same.via s3 (Same.via s4 (Same.via s5 s6)))
    obtain ⟨ds, hds⟩ : ∃ ds, ds = x :: es.filter fun c => decide (x < c) := ⟨_, rfl⟩
    have e6 : H6 el = some (.lst (ds.map V.int)) := by rw [e6, hds]; simp
    have hdl : ds.length ≤ 1001 := by rw [hds, List.length_cons]; omega
    have hge : ∀ e ∈ ds, x ≤ e := fun e he => by
      rw [hds] at he
      rcases List.mem_cons.mp he with y | y
      · omega
      · have := of_decide_eq_true (List.mem_filter.mp y).2
        omega
    have hpw : ds.Pairwise (· < ·) := by
      rw [hds]
      refine List.pairwise_cons.mpr ⟨fun e he => ?_, hp.sublist List.filter_sublist⟩
      exact of_decide_eq_true (List.mem_filter.mp he).2
    have hpw' : ds.Pairwise (· ≤ ·) := hpw.imp fun h => Int.le_of_lt h
    have hst : StepsGe (at_ v ps) x ds := stepsGe_hi fun c hc => by
      obtain ⟨p, hp', rfl⟩ := List.mem_map.mp hc
      rw [hds]
      exact List.mem_cons_of_mem _ (List.mem_filter.mpr ⟨(hm _).mpr (List.mem_map.mpr ⟨p, hi_mem hp', rfl⟩), decide_eq_true (hi_lt hp')⟩)
    refine Wk.g_kForR (n := ds.length) (by rw [hds]; simp) (by omega)
      (fun i σ' H' => ∃ (since : Option Int) (y6 : Option V), σ' = [some (.ref t), some u, some (.int x), some (.int n), some (.ref el), some (optV since), y6, none] ∧ Same H H' ∧ H' el = some (.lst (ds.map V.int)) ∧ RoomInv (at_ v ps) u x n ds i since)
      ⟨none, none, rfl, s06, e6, fun z hz hc => absurd (hc x (by rw [hds]; exact List.mem_cons_self)) (by omega)⟩ (fun i σ' H' hi hP => ?_) (fun σ' H' hP => ?_)
    · obtain ⟨since, y6, rfl, sH, ez, hI⟩ := hP
      obtain ⟨d, hd⟩ : ∃ d, ds[i]? = some d := ⟨_, List.getElem?_eq_getElem hi⟩
      have hde : (ds.map V.int)[i]? = some (.int d) := by rw [List.getElem?_map, hd] <;> rfl
      walk_at "go"
      refine ⟨t, lc, lh, v, ps, d, rfl, T.same sH, hn, fun H7 s7 => ?_⟩
      have ez7 := s7 _ _ ez
      have s07 := Same.via sH s7
      walk_at "go"
      refine Wk.g_neV ((hf _ at_mem).scal hu) ?_
      walk_at "go"
      refine Wk.g_kIfJ (fun σ' H' => ∃ (since : Option Int), σ' = [some (.ref t), some u, some (.int x), some (.int n), some (.ref el), some (optV since), some (.int (i : Int)), none] ∧ H' = H7 ∧ RoomMid (at_ v ps) u x n ds i d since) (fun hb N hN => ?_) (fun hb N hN => ?_) (fun σ' H8 hP => ?_)
      · have hb : at_ v ps d ≠ u := fun z => by rw [decide_eq_true z] at hb; cases hb
        walk_at "go"
        exact hN _ _ ⟨none, rfl, rfl, room_bad hn1 hpw' hst hge hd hb hI⟩
      · have hb : at_ v ps d = u := by
          cases hdd : decide (at_ v ps d = u) with
          | true => exact of_decide_eq_true hdd
          | false => rw [hdd] at hb; cases hb
        cases since with
        | none =>
          simp only [optV]
          walk_at "go"
          exact hN _ _ ⟨some d, rfl, rfl, room_new hpw' hst hge hd hb hI⟩
        | some s0 =>
          simp only [optV]
          walk_at "go"
          exact hN _ _ ⟨some s0, rfl, rfl, room_go hpw' hst hge hd hb hI⟩
      clear hI
      obtain ⟨since, rfl, rfl, hM⟩ := hP
      walk_at "go"
      cases since with
      | none =>
        simp only [optV]
        refine Wk.g_kAndF rfl ?_
        walk_at "go"
        exact ⟨none, _, rfl, s07, ez7, hM⟩
      | some s0 =>
        simp only [optV]
        refine Wk.g_kAndT rfl ?_
        walk_at "go"
        refine Wk.g_kOr (fun hb => ?_) (fun hb => ?_)
        · have hb := of_decide_eq_true hb
          rw [List.length_map] at hb
          walk_at "go"
          exact q _ (some s0) s07 (room_last (by omega) hM)
        · have hb := of_decide_eq_false hb
          rw [List.length_map] at hb
          obtain ⟨d2, hd2⟩ : ∃ d, ds[i + 1]? = some d := ⟨_, List.getElem?_eq_getElem (by omega)⟩
          have hde2 : (ds.map V.int)[i + 1]? = some (.int d2) := by rw [List.getElem?_map, hd2] <;> rfl
          walk_at "go"
          refine Wk.g_kIf (fun hs => ?_) (fun hs => ?_)
          · have hs := of_decide_eq_true hs
            walk_at "go"
            exact q _ (some s0) s07 (room_hit hpw' hd2 hs hM)
          · have hs := of_decide_eq_false hs
            walk_at "go"
            exact ⟨some s0, _, rfl, s07, ez7, room_next hpw hd hd2 (by omega) hM⟩
    · obtain ⟨since, y6, rfl, sH, ez, hI⟩ := hP
      walk_at "go"
      exact q _ none sH (room_end hI)

theorem ok_law_apart (B : Bt mg) (R_law_at : Rd P w K mg base CX0 1 "_law_at" ["told", "place"] sp_law_at) (D : DefAt K mg "_law_apart" s_law_apart) : Rd P w K mg base CX0 2 "_law_apart" ["told", "other", "place"] sp_law_apart := by
  refine D.ok sc_law_apart (fun _ _ _ _ _ _ us hl => match us, hl with | [_, _, _], _ => rfl) (fun vs H Q E h => ?_) (fun f cdv A outer s H vs Q E hr h => ?_)
  · obtain ⟨t, lc, lh, t', lc', lh', v, u, ps, qs, x, rfl, _⟩ := h
    rfl
  · obtain ⟨t, lc, lh, t', lc', lh', v, u, ps, qs, x, rfl, T, T', lp, lq, fp, fq, q⟩ := h
    obtain ⟨ht, hc, hh⟩ := id T
    obtain ⟨ht', hc', hh'⟩ := id T'
    have l1 : ((cuts ps).map V.int).length ≤ 400 := by rw [List.length_map, List.length_map]; exact lp
    have l2 : ((cuts qs).map V.int).length ≤ 400 := by rw [List.length_map, List.length_map]; exact lq
    refine ⟨_, (pss_cons (ps_for PassesOwn.never rfl (pi_list (pe_op op_addA (pe_lst (pa_cons (pv 2) pa_nil)) (pe_lc (own := [("cut", 4)]) (g := gName 4) (by rfl) sc_law_apart.nd (pi_list (pe_callB (call_sortedA rfl) (by rfl) B.sorted (by decide +kernel) (pa_cons (pe_callTy (call_setA rfl) (by rfl) B.set (by decide +kernel) (pa_cons (pe_op op_addA (pe_ix ix_seq (pv 0) pe_int (fun _ _ => rfl)) (pe_ix ix_seq (pv 1) pe_int (fun _ _ => rfl))) pa_nil)) pa_nil))) (blkOk_by (own := [("cut", 4)]) (N := N_law_apart) (sc := defScope s_law_apart) (by decide +kernel)) (fun _ _ _ _ _ => pg_name (i := 4) sc_law_apart.nd rfl (by first | exact Or.inl rfl | exact Or.inr rfl)) (fun _ _ _ _ _ => (pts_one (pt_cmpR op_gt (pv 4) (pv 2) (nomark _)))) (fun _ _ _ _ _ => (pv 4))))) (pg_name (i := 3) sc_law_apart.nd rfl (by first | exact Or.inl rfl | exact Or.inr rfl)) (pss_one (ps_if (pt_cmpR (op_neA hr.units) (pe_callR R_law_at (hr.mono (by decide)) rfl pass0 (pa_cons (pv 0) (pa_cons (pv 3) pa_nil))) (pe_callR R_law_at (hr.mono (by decide)) rfl pass0 (pa_cons (pv 1) (pa_cons (pv 3) pa_nil))) (nomark _)) (pss_one (ps_ret (pv 3))) pss_nil)))
 (pss_one (ps_ret pe_non))), ?_⟩
    change Wk.go _ _ [_, _, _, none, none] H
    (try dsimp only [Wk.cxK, Wk.cxKn, Wk.cxW, Wk.cxWn, Wk.cxP, Wk.cxPn])
    walk_at "go"
    rename_i z1 H1 n1 s1 e1 z2 H2 n2 s2 e2
    rw [← List.map_append] at e2
    have l3 : (cuts ps ++ cuts qs).length ≤ 800 := by
      rw [List.length_map] at l1 l2
      rw [List.length_append]
      omega
    refine Wk.g_set (SqL.of e2) (by omega) fun r c H3 n3 s3 e3 hcl => ?_
    walk_at "go"
    refine Wk.g_sortedset e3 hcl (by omega) fun es es' H4 hp hm hl n4 s4 e4 => ?_
    refine Wk.g_kLcLIF (fun c => decide (x < c)) id (SqL.of e4) (by omega) (by intro _; rfl) (fun i c H' Q' hc sm qq => ?_) (fun i c H' Q' hc hb sm qq => ?_) (fun ml H5 n5 s5 e5 => ?_)
    · walk_at "cl"
      walk_at "go"
      exact qq _ (Same.refl _)
    · walk_at "cl"
      walk_at "go"
      exact qq _ (Same.refl _)
    rw [List.map_id] at e5
    have fl := List.length_filter_le (fun c => decide (x < c)) es
    have e15 := s5 _ _ (s4 _ _ (s3 _ _ (s2 _ _ e1)))
    walk_at "go"
    rename_i el H6 n6 s6 e6
    have s06 : Same H H6 := Same.via s1 (Same.via s2 (Same.via s3 (Same.via s4 (Same.via s5 s6))))
    obtain ⟨ds, hds⟩ : ∃ ds, ds = x :: es.filter fun c => decide (x < c) := ⟨_, rfl⟩
    have e6 : H6 el = some (.lst (ds.map V.int)) := by rw [e6, hds]; simp
    have hge : ∀ e ∈ ds, x ≤ e := fun e he => by
      rw [hds] at he
      rcases List.mem_cons.mp he with y | y
      · omega
      · have := of_decide_eq_true (List.mem_filter.mp y).2
        omega
    have hpw : ds.Pairwise (· ≤ ·) := by
      rw [hds]
      refine List.pairwise_cons.mpr ⟨fun e he => ?_, (hp.sublist List.filter_sublist).imp fun h => Int.le_of_lt h⟩
      have := of_decide_eq_true (List.mem_filter.mp he).2
      omega
    have hf : StepsGe (at_ v ps) x ds := stepsGe_hi fun c hc => by
      obtain ⟨p, hp', rfl⟩ := List.mem_map.mp hc
      rw [hds]
      exact List.mem_cons_of_mem _ (List.mem_filter.mpr ⟨(hm _).mpr (List.mem_append_left _ (List.mem_map.mpr ⟨p, hi_mem hp', rfl⟩)), decide_eq_true (hi_lt hp')⟩)
    have hg : StepsGe (at_ u qs) x ds := stepsGe_hi fun c hc => by
      obtain ⟨p, hp', rfl⟩ := List.mem_map.mp hc
      rw [hds]
      exact List.mem_cons_of_mem _ (List.mem_filter.mpr ⟨(hm _).mpr (List.mem_append_right _ (List.mem_map.mpr ⟨p, hi_mem hp', rfl⟩)), decide_eq_true (hi_lt hp')⟩)
    refine Wk.g_kForL (SqL.of e6)
      (fun i σ' H' => ∃ y3 : Option V, σ' = [some (.ref t), some (.ref t'), some (.int x), y3, none] ∧ Same H H' ∧ H' el = some (.lst (ds.map V.int)) ∧ PartInv (at_ v ps) (at_ u qs) x ds i)
      ⟨none, rfl, s06, e6, fun z hz hc => absurd (hc x (by rw [hds]; exact List.mem_cons_self)) (by omega)⟩ (fun i σ' H' hP => ?_) (fun i y σ' H' hy hP => ?_) (fun σ' H' hP => ?_)
    · obtain ⟨_, _, _, ez, _⟩ := hP
      exact SqL.of ez
    · obtain ⟨y3, rfl, sH, ez, hI⟩ := hP
      obtain ⟨c, hc, rfl⟩ := int_at hy
      walk_at "go"
      refine ⟨t, lc, lh, v, ps, c, rfl, T.same sH, by omega, fun H7 s7 => ?_⟩
      walk_at "go"
      refine ⟨t', lc', lh', u, qs, c, rfl, T'.same (Same.via sH s7), by omega, fun H8 s8 => ?_⟩
      have s78 := Same.via s7 s8
      refine Wk.g_neV ((fp _ at_mem).scal (fq _ at_mem)) ?_
      walk_at "go"
      refine Wk.g_kIf (fun hb => ?_) (fun hb => ?_)
      · have hb : at_ v ps c ≠ at_ u qs c := fun z => by rw [decide_eq_true z] at hb; cases hb
        walk_at "go"
        exact q _ (some c) (Same.via sH s78) (part_found hpw hge hc hb hI)
      · have hb : at_ v ps c = at_ u qs c := by
          cases hd : decide (at_ v ps c = at_ u qs c) with
          | true => exact of_decide_eq_true hd
          | false => rw [hd] at hb; cases hb
        walk_at "go"
        exact ⟨_, rfl, Same.via sH s78, s78 _ _ ez, part_step hpw hf hg hge hc hb hI⟩
    · obtain ⟨y3, rfl, sH, ez, hI⟩ := hP
      rw [List.length_map] at hI
      walk_at "go"
      exact q _ none sH (part_end hI)

theorem ok_law_place (B : Bt mg) (D : DefAt K mg "_law_place" s_law_place) : Rd P w K mg base CX0 1 "_law_place" ["due", "cell"] sp_law_end := by
  refine D.ok sc_law_place (fun _ _ _ _ _ _ us hl => match us, hl with | [_, _], _ => rfl) (fun vs H Q E h => ?_) (fun f cdv A outer s H vs Q E hr h => ?_)
  · obtain ⟨t, lc, lh, v, ps, c, rfl, _⟩ := h
    rfl
  · obtain ⟨t, lc, lh, v, ps, c, rfl, T, hn, q⟩ := h
    obtain ⟨ht, hc, hh⟩ := id T
    refine ⟨_, (pss_cons (ps_if (PW.pt (pw_and (pt_cmpR (op_eqA hr.units) (pe_op op_mod (pv 1) pe_int) pe_int (nomark _)) (pw_and1 (pt_cmpR (op_neA hr.units) (pe_ix ix_seq (pv 0) pe_int (fun _ _ => rfl)) (pe_lst pa_nil) (nomark _))))) (pss_one (ps_ret (pe_op op_sub (pe_op op_addA (pe_ix ix_seq (pe_ix ix_seq (pv 0) pe_int (fun _ _ => rfl)) (pe_op op_mod (pe_op op_fdiv (pv 1) pe_int) (pe_callB call_lenA (by rfl) B.len (by decide +kernel) (pa_cons (pe_ix ix_seq (pv 0) pe_int (fun _ _ => rfl)) pa_nil))) (fun _ _ => rfl)) (pe_op op_mod (pe_op op_fdiv (pv 1) pe_int) pe_int)) pe_int))) pss_nil)
 (pss_one (ps_ret (pe_op op_sub (pe_op op_mod (pe_op op_fdiv (pv 1) pe_int) pe_int) pe_int)))), ?_⟩
    change Wk.go _ _ [_, _] H
    (try dsimp only [Wk.cxK, Wk.cxKn, Wk.cxW, Wk.cxWn, Wk.cxP, Wk.cxPn])
    walk_at "go"
    refine Wk.g_kAndJ (fun σ' H' => σ' = [some (.ref t), some (.int c)] ∧ Same H H') (fun N hN => ?_) (fun σ' H1 hP => ?_)
    · refine Wk.g_kAnd (fun _ => ?_) (fun _ => ?_)
      · walk_at "go"
        rename_i y H1 n1 s1 e1
        refine Wk.g_neD (d := .list ((cuts ps).map .int)) (e := .list (([] : List Int).map .int)) (dp_ints (SqL.of (s1 _ _ hc))) (.lst (SqL.of e1) .nil) ((sh_lints _).ok (by decide)) ((sh_lints _).ok (by decide)) ?_
        rw [eqv_list, eqva_ints]
        walk_at "go"
        refine Wk.g_kIf (fun hb => ?_) (fun hb => ?_)
        · have hlen : 0 < ps.length := by
            cases ps with
            | nil => cases hb
            | cons p r => simp
          have hl2 : ((cuts ps).map V.int).length = ps.length := by rw [List.length_map, List.length_map]
          have hpos : 0 < (((cuts ps).map V.int).length : Int) := by rw [hl2]; omega
          have ht1 := s1 _ _ ht
          have hc1 := s1 _ _ hc
          walk_at "go"
          have hj0 := Int.emod_nonneg (c / 3) (show (((cuts ps).map V.int).length : Int) ≠ 0 by omega)
          have hj1 := Int.emod_lt_of_pos (c / 3) hpos
          obtain ⟨j, hj⟩ := Int.eq_ofNat_of_zero_le hj0
          rw [hj] at hj1 ⊢
          have hj1 : j < ps.length := by rw [hl2] at hj1; omega
          have hcj : ((cuts ps).map V.int)[j]? = some (.int (ps[j].1)) := by rw [List.getElem?_map, List.getElem?_map, List.getElem?_eq_getElem hj1] <;> rfl
          walk_at "go"
          exact q _ _ s1
        · walk_at "go"
          exact hN _ _ ⟨rfl, s1⟩
      · walk_at "go"
        exact hN _ _ ⟨rfl, Same.refl _⟩
    obtain ⟨rfl, s1⟩ := hP
    walk_at "go"
    exact q _ _ s1

theorem ok_law_told (B : Bt mg) (R_law_whole : Rd P w K mg base CX0 1 "_law_whole" ["found"] sp_law_whole) (D : DefAt K mg "_law_told" s_law_told) : Rd P w K mg base CX0 2 "_law_told" ["found", "due"] sp_law_told15 := by
  refine D.ok sc_law_told (fun _ _ _ _ _ _ us hl => match us, hl with | [_, _], _ => rfl) (fun vs H Q E h => ?_) (fun f cdv A outer s H vs Q E hr h => ?_)
  · obtain ⟨x, y, rfl, _⟩ := h
    rfl
  · obtain ⟨x, y, rfl, h, q⟩ := h
    refine ⟨_, (pss_cons (ps_if (pt_cmpR op_isN' (pv 1) pe_non (nomark _)) (pss_one (ps_ret (pe_cmpR op_isN' (pv 0) pe_non (nomark _)))) pss_nil)
 (pss_cons (ps_if (pt_val (pe_callB call_isiA (by rfl) B.isinstance (by decide +kernel) (pa_cons (pv 1) (pa_cons (pe_bltn (by rfl) B.tuple (by decide +kernel) (v := .ty "tuple") rfl) pa_nil)))) (pss_one (ps_ret (pe_and (pe_callB call_isiA (by rfl) B.isinstance (by decide +kernel) (pa_cons (pv 0) (pa_cons (pe_bltn (by rfl) B.tuple (by decide +kernel) (v := .ty "tuple") rfl) pa_nil))) (pe_and (pe_cmpR (op_eqA hr.units) (pv 0) (pv 1) (nomark _)) (pe_and (pe_callR R_law_whole (hr.mono (by decide)) rfl pass0 (pa_cons (pe_ix ix_seq (pv 0) pe_int (fun _ _ => rfl)) pa_nil)) (pe_one (pe_callR R_law_whole (hr.mono (by decide)) rfl pass0 (pa_cons (pe_ix ix_seq (pv 0) pe_int (fun _ _ => rfl)) pa_nil)))))))) pss_nil)
 (pss_one (ps_ret (pe_and (pe_callR R_law_whole (hr.mono (by decide)) rfl pass0 (pa_cons (pv 0) pa_nil)) (pe_one (pe_cmpR (op_eqA hr.units) (pv 0) (pv 1) (nomark _)))))))), ?_⟩
    change Wk.go _ _ [_, _] H
    (try dsimp only [Wk.cxK, Wk.cxKn, Wk.cxW, Wk.cxWn, Wk.cxP, Wk.cxPn])
    rcases h with ⟨rfl, rfl⟩ | ⟨i, rfl, rfl⟩ | ⟨s, n, t1, t2, rfl, rfl, h1, h2⟩
    · walk_at "go"
      exact q _ (Same.refl _)
    · walk_at "go"
      refine ⟨_, rfl, ?_⟩
      refine Wk.g_kAndV (fun _ => ?_) (fun z => nomatch z)
      walk_at "go"
      rw [decide_eq_true rfl]
      exact q _ (Same.refl _)
    · walk_at "go"
      refine Wk.g_kAndV (fun _ => ?_) (fun z => nomatch z)
      walk_at "go"
      refine Wk.g_eqD (d := .tuple [.int s, .int n]) (e := .tuple [.int s, .int n]) (.tup (SqT.of h1) (.cons (.int _) (.cons (.int _) .nil))) (.tup (SqT.of h2) (.cons (.int _) (.cons (.int _) .nil))) ((sh_tup (sha_cons (sh_int _ 0) (sha_cons (sh_int _ 0) (sha_nil 0)))).ok (by decide)) ((sh_tup (sha_cons (sh_int _ 0) (sha_cons (sh_int _ 0) (sha_nil 0)))).ok (by decide)) ?_
      rw [eqv_tup, eqva_cons, eqva_cons, eqva_nil, eqv_int, eqv_int, decide_eq_true rfl, decide_eq_true rfl]
      refine Wk.g_kAndV (fun _ => ?_) (fun z => nomatch z)
      walk_at "go"
      refine ⟨_, rfl, ?_⟩
      refine Wk.g_kAndV (fun _ => ?_) (fun z => nomatch z)
      walk_at "go"
      refine ⟨_, rfl, ?_⟩
      exact q _ (Same.refl _)

theorem ok_law_parts (B : Bt mg) (D : DefAt K mg "_law_parts" s_law_parts) : Rd P w K mg base CX0 1 "_law_parts" ["found", "due"] sp_law_parts := by
  refine D.ok sc_law_parts (fun _ _ _ _ _ _ us hl => match us, hl with | [_, _], _ => rfl) (fun vs H Q E h => ?_) (fun f cdv A outer s H vs Q E hr h => ?_)
  · obtain ⟨a, b, L, rfl, _⟩ := h
    rfl
  · obtain ⟨a, b, L, rfl, hA, hB, hv, hn, q⟩ := h
    obtain ⟨as, ha, hal, hall⟩ := id hA
    obtain ⟨bs, hb, hbl, hbll⟩ := id hB
    rw [List.length_map] at hal hbl
    refine ⟨_, (pss_cons (ps_if (PW.pt (pw_or (pt_not (pt_val (pe_callB call_isiA (by rfl) B.isinstance (by decide +kernel) (pa_cons (pv 0) (pa_cons (pe_bltn (by rfl) B.list (by decide +kernel) (v := .ty "list") rfl) pa_nil))))) (pw_or1 (pt_cmpR (op_neA hr.units) (pe_callB call_lenA (by rfl) B.len (by decide +kernel) (pa_cons (pv 0) pa_nil)) (pe_callB call_lenA (by rfl) B.len (by decide +kernel) (pa_cons (pv 1) pa_nil)) (nomark _))))) (pss_one (ps_ret pe_bl)) pss_nil)
 (pss_cons (ps_for PassesOwn.never rfl (pi_range1 (by rfl) B.range (pa_cons (pe_callB call_lenA (by rfl) B.len (by decide +kernel) (pa_cons (pv 1) pa_nil)) pa_nil)) (pg_name (i := 2) sc_law_parts.nd rfl (by first | exact Or.inl rfl | exact Or.inr rfl)) (pss_one (ps_if (PW.pt (pw_or (pt_not (pt_val (pe_callB call_isiA (by rfl) B.isinstance (by decide +kernel) (pa_cons (pe_ix ix_seq (pv 0) (pv 2) (fun _ _ => rfl)) (pa_cons (pe_bltn (by rfl) B.tuple (by decide +kernel) (v := .ty "tuple") rfl) pa_nil))))) (pw_or (pt_cmpR (op_neA hr.units) (pe_ix ix_seq (pv 0) (pv 2) (fun _ _ => rfl)) (pe_ix ix_seq (pv 1) (pv 2) (fun _ _ => rfl)) (nomark _)) (pw_or1 (pt_val (pe_callB call_isiA (by rfl) B.isinstance (by decide +kernel) (pa_cons (pe_ix ix_seq (pe_ix ix_seq (pv 0) (pv 2) (fun _ _ => rfl)) pe_int (fun _ _ => rfl)) (pa_cons (pe_bltn (by rfl) B.bool (by decide +kernel) (v := .ty "bool") rfl) pa_nil)))))))) (pss_one (ps_ret pe_bl)) pss_nil)))
 (pss_one (ps_ret pe_bl)))), ?_⟩
    change Wk.go _ _ [_, _, none] H
    (try dsimp only [Wk.cxK, Wk.cxKn, Wk.cxW, Wk.cxWn, Wk.cxP, Wk.cxPn])
    walk_at "go"
    refine Wk.g_kIfF (by simp [hal, hbl]) ?_
    walk_at "go"
    refine Wk.g_kForR (n := L.length) (by rw [List.length_map, hbl]) (by omega) (fun i σ' H' => ∃ y2 : Option V, σ' = [some (.ref a), some (.ref b), y2] ∧ Same H H') ⟨none, rfl, Same.refl _⟩ (fun i σ' H1 hi hP => ?_) (fun σ' H1 hP => ?_)
    · obtain ⟨y2, rfl, sH⟩ := hP
      obtain ⟨d, hd⟩ : ∃ d, L[i]? = some d := ⟨_, List.getElem?_eq_getElem hi⟩
      obtain ⟨c, hc⟩ : ∃ c, as[i]? = some c := ⟨_, List.getElem?_eq_getElem (by omega)⟩
      obtain ⟨e, he⟩ : ∃ e, bs[i]? = some e := ⟨_, List.getElem?_eq_getElem (by omega)⟩
      have hdT : (L.map runT)[i]? = some (runT d) := by rw [List.getElem?_map, hd] <;> rfl
      have hca : (as.map V.ref)[i]? = some (.ref c) := by rw [List.getElem?_map, hc] <;> rfl
      have hea : (bs.map V.ref)[i]? = some (.ref e) := by rw [List.getElem?_map, he] <;> rfl
      have tc := sH _ _ (hall i c _ hc hdT)
      have te := sH _ _ (hbll i e _ he hdT)
      have ha1 := sH _ _ ha
      have hb1 := sH _ _ hb
      have hf := hv d (List.mem_of_getElem? hd)
      have hdp : ∀ x, H1 x = some (.tup (runT d)) → Dp K H1 (.ref x) (dRun d) := fun x hx => .tup (SqT.of hx) (.cons (.int _) (.cons (.int _) (.cons hf.dp .nil)))
      have hsh : Sh (dRun d) 1 := sh_tup (sha_cons (sh_int _ 0) (sha_cons (sh_int _ 0) (sha_cons (hf.sh 0) (sha_nil 0))))
      have heq : PyData.eqv (dRun d) (dRun d) = true := by
        unfold dRun
        rw [eqv_tup, eqva_cons, eqva_cons, eqva_cons, eqva_nil, eqv_int, eqv_int, eqv_flat hf hf, decide_eq_true rfl, decide_eq_true rfl, decide_eq_true rfl] <;> rfl
      have tc' := tc
      have te' := te
      simp only [runT] at tc te
      walk_at "go"
      refine Wk.g_neD (hdp c tc') (hdp e te') (hsh.ok (by decide)) (hsh.ok (by decide)) ?_
      rw [heq]
      walk_at "go"
      have hib : ∀ {Q : VK}, Q (.bl false) H1 → rIsi K [d.2.2, .ty "bool"] H1 Q := fun k => by
        rcases hf with h | ⟨z, _, h⟩ | ⟨z, h⟩ <;> rw [h]
        · exact Wk.g_isiN Wk.k_nb k
        · exact Wk.g_isiS Wk.k_sb k
        · exact Wk.g_isiI Wk.k_ib k
      refine hib ?_
      walk_at "go"
      exact ⟨_, rfl, sH⟩
    · obtain ⟨y2, rfl, sH⟩ := hP
      walk_at "go"
      exact q _ sH

theorem ok_law_asked {C fI : Addr} (B : Bt mg) (L : LineC K mg C fI)
    (R_runs : Rd P w K mg base CX0 3 "runs" ["line", "start", "end"] (sp_runs C)) (R_tally : Rd P w K mg base CX0 4 "tally" ["line", "value", "start", "end"] (sp_tally C)) (R_longest : Rd P w K mg base CX0 4 "longest" ["line", "value", "start", "end"] (sp_longest C)) (R_first_room : Rd P w K mg base CX0 3 "first_room" ["line", "value", "place", "size"] (sp_first_room0 C))
    (R_law_runs : Rd P w K mg base CX0 2 "_law_runs" ["told", "start", "end"] sp_law_runs) (R_law_longest : Rd P w K mg base CX0 1 "_law_longest" ["due", "value"] sp_law_longest) (R_law_room : Rd P w K mg base CX0 2 "_law_room" ["told", "value", "place", "size"] sp_law_room)
    (R_law_told : Rd P w K mg base CX0 2 "_law_told" ["found", "due"] sp_law_told15) (R_law_parts : Rd P w K mg base CX0 1 "_law_parts" ["found", "due"] sp_law_parts)
    (D : DefAt K mg "_law_asked" s_law_asked) : Rd P w K mg base CX0 5 "_law_asked" ["line", "due", "start", "end", "value", "size"] (sp_law_asked C) := by
  refine D.ok sc_law_asked (fun _ _ _ _ _ _ us hl => match us, hl with | [_, _, _, _, _, _], _ => rfl) (fun vs H Q E h => ?_) (fun f cdv A outer s H vs Q E hr h => ?_)
  · obtain ⟨p, t, lc, lh, v, u, ps, qs, s, e, n, x, rfl, _⟩ := h
    rfl
  · obtain ⟨p, t, lc, lh, v, u0, ps, qs, st, en, n, u, rfl, hL, hri, hnr, hln, hfl, T, hfq, hlq, hat, hu, hn1, q⟩ := h
    have hfun : at_ v ps = at_ u0 qs := funext hat
    refine ⟨_, (pss_cons (ps_set (i := 6) sc_law_asked.nd rfl (by first | exact Or.inl rfl | exact Or.inr rfl) (pe_callR R_law_runs (hr.mono (by decide)) rfl pass0 (pa_cons (pv 1) (pa_cons (pv 2) (pa_cons (pv 3) pa_nil)))))
 (pss_cons (ps_if (pt_not (pt_val (pe_callR R_law_parts (hr.mono (by decide)) rfl pass0 (pa_cons (pe_callR R_runs (hr.mono (by decide)) rfl pass0 (pa_cons (pv 0) (pa_cons (pv 2) (pa_cons (pv 3) pa_nil)))) (pa_cons (pv 6) pa_nil))))) (pss_one (ps_ret pe_bl)) pss_nil)
 (pss_cons (ps_set (i := 7) sc_law_asked.nd rfl (by first | exact Or.inl rfl | exact Or.inr rfl) (pe_callB (cr_sum rfl) (by rfl) B.sum (by decide +kernel) (pa_cons (pe_lc (own := [("part", 8)]) (g := gName 8) (by rfl) sc_law_asked.nd (pi_list (pv 6)) (blkOk_by (own := [("part", 8)]) (N := N_law_asked) (sc := defScope s_law_asked) (by decide +kernel)) (fun _ _ _ _ _ => pg_name (i := 8) sc_law_asked.nd rfl (by first | exact Or.inl rfl | exact Or.inr rfl)) (fun _ _ _ _ _ => (pts_one (pt_cmpR (op_eqK (K := K) rfl hr.units) (pe_ix (ix_seqK (K := K) rfl) (pv 8) pe_int (fun _ _ => rfl)) (pv 4) (nomark _)))) (fun _ _ _ _ _ => (pe_op op_sub (pe_ix (ix_seqK (K := K) rfl) (pv 8) pe_int (fun _ _ => rfl)) (pe_ix (ix_seqK (K := K) rfl) (pv 8) pe_int (fun _ _ => rfl))))) pa_nil)))
 (pss_cons (ps_if (pt_not (pt_val (pe_callR R_law_told (hr.mono (by decide)) rfl pass0 (pa_cons (pe_callR R_tally (hr.mono (by decide)) rfl pass0 (pa_cons (pv 0) (pa_cons (pv 4) (pa_cons (pv 2) (pa_cons (pv 3) pa_nil))))) (pa_cons (pv 7) pa_nil))))) (pss_one (ps_ret pe_bl)) pss_nil)
 (pss_cons (ps_if (pt_not (pt_val (pe_callR R_law_told (hr.mono (by decide)) rfl pass0 (pa_cons (pe_callR R_longest (hr.mono (by decide)) rfl pass0 (pa_cons (pv 0) (pa_cons (pv 4) (pa_cons (pv 2) (pa_cons (pv 3) pa_nil))))) (pa_cons (pe_callR R_law_longest (hr.mono (by decide)) rfl pass0 (pa_cons (pv 6) (pa_cons (pv 4) pa_nil))) pa_nil))))) (pss_one (ps_ret pe_bl)) pss_nil)
 (pss_one (ps_ret (pe_callR R_law_told (hr.mono (by decide)) rfl pass0 (pa_cons (pe_callR R_first_room (hr.mono (by decide)) rfl pass0 (pa_cons (pv 0) (pa_cons (pv 4) (pa_cons (pv 2) (pa_cons (pv 5) pa_nil))))) (pa_cons (pe_callR R_law_room (hr.mono (by decide)) rfl pass0 (pa_cons (pv 1) (pa_cons (pv 4) (pa_cons (pv 2) (pa_cons (pv 5) pa_nil))))) pa_nil)))))))))), ?_⟩
    change Wk.go _ _ [_, _, _, _, _, _, none, none, none] H
    (try dsimp only [Wk.cxK, Wk.cxKn, Wk.cxW, Wk.cxWn, Wk.cxP, Wk.cxPn])
    walk_at "go"
    refine ⟨t, lc, lh, u0, qs, st, en, rfl, T, hfq, hlq, fun H10 b R n10 s10 hR hRo hRl => ?_⟩
    have hRf := hRo.flat fun x => hfq _ at_mem
    have hRL : R.reverse.length ≤ 2000 := by rw [List.length_reverse]; omega
    walk_at "go"
    refine ⟨p, v, ps, st, en, rfl, hL.same s10, hri, hnr, hln, fun H11 c R' n11 s11 hR' hRo' hRl' => ?_⟩
    rw [hfun] at hRo'
    obtain rfl := hRo'.uniq hRo
    have s011 := Same.via s10 s11
    walk_at "go"
    refine ⟨c, b, _, rfl, hR', hR.same s11, hRf, hRL, fun H12 s12 => ?_⟩
    have s1012 := Same.via s11 s12
    have s012 := Same.via s10 s1012
    obtain ⟨as, ha, hal, hall⟩ := id (hR.same s1012)
    rw [List.length_map] at hal
    walk_at "go"
    refine Wk.g_kLcLD R'.reverse (fun q => decide (q.2.2 = u)) (fun q => .int (q.2.1 - q.1)) (SqL.of ha) (by rw [List.length_map, hal]) (by rw [List.length_map, hal]; omega) (by intro _; rfl) (fun i x d H' Q' hx hd sm qq => ?_) (fun i x d H' Q' hx hd hb sm qq => ?_) (fun l H16 n16 s16 e16 => ?_)
    · walk_at "cl"
      obtain ⟨b, hb, rfl⟩ := Wk.ref_at hx
      have ht := sm _ _ (hall i b (runT d) hb (by rw [List.getElem?_map, hd] <;> rfl))
      simp only [runT] at ht
      walk_at "go"
      refine Wk.g_eqV ((hRf d (List.mem_of_getElem? hd)).scal hu) ?_
      walk_at "go"
      exact qq _ (Same.refl _)
    · walk_at "cl"
      obtain ⟨b, hb, rfl⟩ := Wk.ref_at hx
      have ht := sm _ _ (hall i b (runT d) hb (by rw [List.getElem?_map, hd] <;> rfl))
      simp only [runT] at ht
      walk_at "go"
      exact qq _ (Same.refl _)
    have el : (R'.reverse.filter fun q => decide (q.2.2 = u)).map (fun q => V.int (q.2.1 - q.1)) = ((R'.reverse.filter fun q => decide (q.2.2 = u)).map fun q => q.2.1 - q.1).map V.int := by
      rw [List.map_map] <;> rfl
    rw [el] at e16
    have s1016 := Same.via s1012 s16
    have s016 := Same.via s10 s1016
    walk_at "go"
    refine ⟨p, v, ps, st, en, u, rfl, hL.same s016, hri, hnr, hln, hfl, hu, fun H17 R' s17 hRo4 => ?_⟩
    rw [hfun] at hRo4
    obtain rfl := hRo4.uniq hRo
    have s1017 := Same.via s1016 s17
    walk_at "go"
    refine ⟨_, _, rfl, .inr (.inl ⟨_, rfl, rfl⟩), fun H18 s18 => ?_⟩
    have s1018 := Same.via s1017 s18
    have s018 := Same.via s10 s1018
    walk_at "go"
    refine ⟨p, v, ps, st, en, u, rfl, hL.same s018, hri, hnr, hln, hfl, hu, fun H19 R' bv s19 hRo5 hbv => ?_⟩
    rw [hfun] at hRo5
    obtain rfl := hRo5.uniq hRo
    have s1019 := Same.via s1018 s19
    walk_at "go"
    refine ⟨b, _, u, rfl, hR.same s1019, hRf, hu, fun H20 bv2 s20 hbv2 => ?_⟩
    have hbv := hbv.same s20
    have s1020 := Same.via s1019 s20
    walk_at "go"
    refine ⟨bv, bv2, rfl, ?_, fun H21 s21 => ?_⟩
    · cases hbest : longF u R'.reverse with
      | none =>
        rw [hbest] at hbv hbv2
        exact .inl ⟨hbv, hbv2⟩
      | some bb =>
        obtain ⟨b1, b2⟩ := bb
        rw [hbest] at hbv hbv2
        obtain ⟨t1, rfl, h1⟩ := hbv
        obtain ⟨t2, rfl, h2⟩ := hbv2
        exact .inr (.inr ⟨b1, b2, t1, t2, rfl, rfl, h1, h2⟩)
    have s021 := Same.via s10 (Same.via s1020 s21)
    walk_at "go"
    refine ⟨p, v, ps, u, st, n, rfl, hL.same s021, hri, hnr, hln, hfl, hu, hn1, fun H22 res s22 hres => ?_⟩
    rw [hfun] at hres
    walk_at "go"
    refine ⟨t, lc, lh, u0, qs, u, st, n, rfl, T.same (Same.via s021 s22), hlq, hfq, hu, hn1, fun H23 res2 s23 hres2 => ?_⟩
    obtain rfl := room_uniq hres hres2
    walk_at "go"
    refine ⟨_, _, rfl, ?_, fun H24 s24 => q H24 (Same.via (Same.via s021 s22) (Same.via s23 s24))⟩
    cases res with
    | none => exact .inl ⟨rfl, rfl⟩
    | some y => exact .inr (.inl ⟨y, rfl, rfl⟩)

theorem ok_law_alike_by (B : Bt mg) (D : DefAt K mg "_law_alike_by" s_law_alike_by) : Rd P w K mg base CX0 1 "_law_alike_by" ["one", "other"] sp_alike_by := by
  refine D.ok sc_law_alike_by (fun _ _ _ _ _ _ us hl => match us, hl with | [_, _], _ => rfl) (fun vs H Q E h => ?_) (fun f cdv A outer s H vs Q E hr h => ?_)
  · obtain ⟨x, y, rfl, _⟩ := h
    rfl
  · obtain ⟨x, y, rfl, hx, hy, q⟩ := h
    refine ⟨_, (pss_one (ps_ret (pe_callTy call_intA (by rfl) B.int (by decide +kernel) (pa_cons (pe_cmpR (op_eqA hr.units) (pv 0) (pv 1) (nomark _)) pa_nil)))), ?_⟩
    change Wk.go _ _ [_, _] H
    (try dsimp only [Wk.cxK, Wk.cxKn, Wk.cxW, Wk.cxWn, Wk.cxP, Wk.cxPn])
    walk_at "go"
    refine Wk.g_eqV (hx.scal hy) ?_
    walk_at "go"
    exact q _ (Same.refl _)

theorem ok_law_both (B : Bt mg) (R_law_at : Rd P w K mg base CX0 1 "_law_at" ["told", "place"] sp_law_at) (D : DefAt K mg "_law_both" s_law_both) : Rd P w K mg base CX0 2 "_law_both" ["one", "other"] sp_law_both := by
  refine D.ok sc_law_both (fun _ _ _ _ _ _ us hl => match us, hl with | [_, _], _ => rfl) (fun vs H Q E h => ?_) (fun f cdv A outer s H vs Q E hr h => ?_)
  · obtain ⟨t, lc, lh, t', lc', lh', v, u, ps, qs, rfl, _⟩ := h
    rfl
  · obtain ⟨t, lc, lh, t', lc', lh', v, u, ps, qs, rfl, T, T', lp, lq, fp, fq, q⟩ := h
    refine ⟨_, (pss_cons (ps_set (i := 2) sc_law_both.nd rfl (by first | exact Or.inl rfl | exact Or.inr rfl) (pe_callB (call_sortedA rfl) (by rfl) B.sorted (by decide +kernel) (pa_cons (pe_callTy (call_setA rfl) (by rfl) B.set (by decide +kernel) (pa_cons (pe_op op_addA (pe_ix ix_seq (pv 0) pe_int (fun _ _ => rfl)) (pe_ix ix_seq (pv 1) pe_int (fun _ _ => rfl))) pa_nil)) pa_nil)))
 (pss_cons (ps_set (i := 3) sc_law_both.nd rfl (by first | exact Or.inl rfl | exact Or.inr rfl) (pe_lst (pa_cons (pe_callTy call_intA (by rfl) B.int (by decide +kernel) (pa_cons (pe_cmpR (op_eqA hr.units) (pe_ix ix_seq (pe_ix ix_seq (pv 0) pe_int (fun _ _ => rfl)) pe_int (fun _ _ => rfl)) (pe_ix ix_seq (pe_ix ix_seq (pv 1) pe_int (fun _ _ => rfl)) pe_int (fun _ _ => rfl)) (nomark _)) pa_nil)) pa_nil)))
 (pss_cons (ps_for PassesOwn.never rfl (pi_list (pv 2)) (pg_name (i := 4) sc_law_both.nd rfl (by first | exact Or.inl rfl | exact Or.inr rfl)) (pss_one (ps_expr (pe_bm PySem.F.plainAttrs_list PySem.F.slot_list_append PySem.F.type_list_append mt_append (pv 3) (pa_cons (pe_callTy call_intA (by rfl) B.int (by decide +kernel) (pa_cons (pe_cmpR (op_eqA hr.units) (pe_callR R_law_at (hr.mono (by decide)) rfl pass0 (pa_cons (pv 0) (pa_cons (pv 4) pa_nil))) (pe_callR R_law_at (hr.mono (by decide)) rfl pass0 (pa_cons (pv 1) (pa_cons (pv 4) pa_nil))) (nomark _)) pa_nil)) pa_nil)))))
 (pss_one (ps_ret (pe_tup (pa_cons (pv 2) (pa_cons (pv 3) pa_nil)))))))), ?_⟩
    change Wk.go _ _ [_, _, none, none, none] H
    (try dsimp only [Wk.cxK, Wk.cxKn, Wk.cxW, Wk.cxWn, Wk.cxP, Wk.cxPn])
    obtain ⟨ht, hc, hh⟩ := id T
    obtain ⟨ht', hc', hh'⟩ := id T'
    have l1 : ((cuts ps).map V.int).length ≤ 400 := by rw [List.length_map, List.length_map]; exact lp
    have l2 : ((cuts qs).map V.int).length ≤ 400 := by rw [List.length_map, List.length_map]; exact lq
    have l3 : (cuts ps ++ cuts qs).length = ps.length + qs.length := by rw [List.length_append, List.length_map, List.length_map]
    walk_at "go"
    rename_i z1 H1 n1 s1 e1
    rw [← List.map_append] at e1
    refine Wk.g_set (SqL.of e1) (by omega) fun y c H2 n2 s2 e2 hcl => ?_
    walk_at "go"
    refine Wk.g_sortedset e2 hcl (by omega) fun es z H3 hpw hm hl n3 s3 e3 => ?_
    have s03 := Same.via s1 (Same.via s2 s3)
    have h0p : (holds v ps)[0]? = some v := rfl
    have h0q : (holds u qs)[0]? = some u := rfl
    have ht3 := s03 _ _ ht
    have hh3 := s03 _ _ hh
    have ht3' := s03 _ _ ht'
    have hh3' := s03 _ _ hh'
    walk_at "go"
    refine Wk.g_eqV ((fp v List.mem_cons_self).scal (fq u List.mem_cons_self)) ?_
    walk_at "go"
    rename_i hd H5 n5 s5 e5
    have s05 := Same.via s03 s5
    have fhd : H hd = none := Wk.fresh_back s03 n5
    have nzh : z ≠ hd := ne_of_none e3 n5
    have fz : H z = none := Wk.fresh_back (Same.via s1 s2) n3
    refine Wk.g_kForL (SqL.of (s5 _ _ e3))
      (fun i σ' H' => ∃ (y5 : Option V), σ' = [some (.ref t), some (.ref t'), some (.ref z), some (.ref hd), y5] ∧ Same H H' ∧ H' z = some (.lst (es.map V.int)) ∧ H' hd = some (.lst (alikeV v u :: (es.take i).map fun e => alikeV (at_ v ps e) (at_ u qs e))))
      ⟨none, rfl, s05, s5 _ _ e3, e5⟩ (fun i σ' H' hP => ?_) (fun i x σ' H' hx hP => ?_) (fun σ' H' hP => ?_)
    · obtain ⟨_, _, _, ez, _⟩ := hP
      exact SqL.of ez
    · obtain ⟨y5, rfl, sH, ez, eh⟩ := hP
      obtain ⟨c, hc, rfl⟩ := int_at hx
      have hi := (List.getElem?_eq_some_iff.mp hc).1
      walk_at "go"
      refine ⟨t, lc, lh, v, ps, c, rfl, T.same sH, by omega, fun H6 s6 => ?_⟩
      walk_at "go"
      refine ⟨t', lc', lh', u, qs, c, rfl, T'.same (Same.via sH s6), by omega, fun H7 s7 => ?_⟩
      refine Wk.g_eqV ((fp _ at_mem).scal (fq _ at_mem)) ?_
      have s68 := Same.via s6 s7
      have eh8 := s68 _ _ eh
      have hlt : (alikeV v u :: (es.take i).map fun e => alikeV (at_ v ps e) (at_ u qs e)).length < 100000 := by rw [List.length_cons, List.length_map, List.length_take]; omega
      walk_at "go"
      rename_i H9 m9 e9
      refine ⟨_, rfl, Wk.Same.mutd (Same.via sH s68) m9 fhd, by rw [m9 z nzh]; exact s68 _ _ ez, ?_⟩
      rw [e9, List.take_add_one, hc, List.map_append] <;> rfl
    · obtain ⟨y5, rfl, sH, ez, eh⟩ := hP
      rw [List.length_map, List.take_length] at eh
      have hst := steps_both (G := alikeV) (f := at_ v ps) (g := at_ u qs) steps_at steps_at hm
      have hlo := lo_both (G := alikeV) (v := v) (u := u) hm
      have hat := at_table (f := fun e => alikeV (at_ v ps e) (at_ u qs e)) hpw hlo hst
      have hsr := srt_table (f := fun e => alikeV (at_ v ps e) (at_ u qs e)) hpw
      have hfl : AllFlat (alikeV v u) (es.map fun e => (e, alikeV (at_ v ps e) (at_ u qs e))) := all_holds (alikeV_flat _ _) fun p hp => by
        obtain ⟨e, _, rfl⟩ := List.mem_map.mp hp
        exact alikeV_flat _ _
      walk_at "go"
      rename_i rr H6 n6 s6 e6
      refine q H6 rr z hd (alikeV v u) (es.map fun e => (e, alikeV (at_ v ps e) (at_ u qs e))) (Wk.fresh_back sH n6) (Same.via sH s6) ⟨e6, ?_, ?_⟩ hsr hfl (by rw [List.length_map]; omega) hat
      · rw [cuts_table (f := fun e => alikeV (at_ v ps e) (at_ u qs e))]
        exact s6 _ _ ez
      · rw [holds_table (f := fun e => alikeV (at_ v ps e) (at_ u qs e))]
        exact s6 _ _ eh

theorem ok_law {C fI : Addr} (B : Bt mg) (L : LineC K mg C fI)
    (R_empty_line : Rd P w K mg base CX0 3 "empty_line" [] (sp_empty_line C)) (R_done : Rd P w K mg base CX0 5 "done" ["line", "deed"] (sp_done C)) (R_value_at : Rd P w K mg base CX0 1 "value_at" ["line", "place"] (sp_value_at C)) (R_parted : Rd P w K mg base CX0 2 "parted" ["one", "other", "place"] (sp_parted C))
    (R_joined : ∃ fa, mg "_law_alike_by" = some (.ref fa) ∧ Rd P w K mg base CX0 4 "joined" ["one", "other", "way"] (sp_joined C fa alikeV))
    (R_law_cell_at : Rd P w K mg base CX0 1 "_law_cell_at" ["script", "k"] (sp_law_cell_at K)) (R_law_names : Rd P w K mg base CX0 1 "_law_names" ["cell"] sp_law_names)
    (R_law_deeds : Rd P w K mg base CX0 2 "_law_deeds" ["cells", "names"] (sp_law_deeds K)) (R_law_due : Rd P w K mg base CX0 3 "_law_due" ["deeds"] sp_law_due) (R_law_held : Rd P w K mg base CX0 1 "_law_held" ["found", "due"] sp_law_held) (R_law_at : Rd P w K mg base CX0 1 "_law_at" ["told", "place"] sp_law_at)
    (R_law_apart : Rd P w K mg base CX0 2 "_law_apart" ["told", "other", "place"] sp_law_apart) (R_law_place : Rd P w K mg base CX0 1 "_law_place" ["due", "cell"] sp_law_end) (R_law_told : Rd P w K mg base CX0 2 "_law_told" ["found", "due"] sp_law_told15)
    (R_law_asked : Rd P w K mg base CX0 5 "_law_asked" ["line", "due", "start", "end", "value", "size"] (sp_law_asked C)) (R_law_both : Rd P w K mg base CX0 2 "_law_both" ["one", "other"] sp_law_both)
    {f : Addr} {fd : FuncData} (F : Fun K "law" "law" s_law f fd) : FnOk P w K mg base CX0 6 f fd ["script"] (sp_law K) := by
  obtain ⟨fa, ga, R_joined⟩ := R_joined
  refine fun_ok F sc_law (fun vs H Q E h => ?_) (fun cdv A outer s H vs Q E hr h => ?_)
  · obtain ⟨a, ns, rfl, _⟩ := h
    rfl
  · obtain ⟨a, ns, rfl, hS, hn, q⟩ := h
    refine ⟨_, (pss_cons (ps_set (i := 1) sc_law.nd rfl (by first | exact Or.inl rfl | exact Or.inr rfl) (pe_callR R_law_names (hr.mono (by decide)) rfl pass0 (pa_cons (pe_callR R_law_cell_at (hr.mono (by decide)) rfl pass0 (pa_cons (pv 0) (pa_cons pe_int pa_nil))) pa_nil)))
 (pss_cons (ps_set (i := 2) sc_law.nd rfl (by first | exact Or.inl rfl | exact Or.inr rfl) (pe_callR R_law_deeds (hr.mono (by decide)) rfl pass0 (pa_cons (pe_slice sl_list (pv 0) (po_some pe_int) po_none) (pa_cons (pv 1) pa_nil))))
 (pss_cons (ps_set (i := 3) sc_law.nd rfl (by first | exact Or.inl rfl | exact Or.inr rfl) (pe_callR0 R_empty_line (hr.mono (by decide)) rfl pass0))
 (pss_cons (ps_set (i := 4) sc_law.nd rfl (by first | exact Or.inl rfl | exact Or.inr rfl) (pv 3))
 (pss_cons (ps_for PassesOwn.never rfl (pi_list (pv 2)) (pg_name (i := 5) sc_law.nd rfl (by first | exact Or.inl rfl | exact Or.inr rfl)) (pss_cons (ps_set (i := 4) sc_law.nd rfl (by first | exact Or.inl rfl | exact Or.inr rfl) (pv 3))
 (pss_one (ps_set (i := 3) sc_law.nd rfl (by first | exact Or.inl rfl | exact Or.inr rfl) (pe_callR R_done (hr.mono (by decide)) rfl pass0 (pa_cons (pv 3) (pa_cons (pv 5) pa_nil)))))))
 (pss_cons (ps_set (i := 6) sc_law.nd rfl (by first | exact Or.inl rfl | exact Or.inr rfl) (pe_callR R_law_due (hr.mono (by decide)) rfl pass0 (pa_cons (pv 2) pa_nil)))
 (pss_cons (ps_set (i := 7) sc_law.nd rfl (by first | exact Or.inl rfl | exact Or.inr rfl) (pe_callR R_law_due (hr.mono (by decide)) rfl pass0 (pa_cons (pe_slice sl_list (pv 2) po_none (po_some (pe_un un_neg pe_int))) pa_nil)))
 (pss_cons (ps_set (i := 8) sc_law.nd rfl (by first | exact Or.inl rfl | exact Or.inr rfl) (pe_callR R_law_place (hr.mono (by decide)) rfl pass0 (pa_cons (pv 6) (pa_cons (pe_callR R_law_cell_at (hr.mono (by decide)) rfl pass0 (pa_cons (pv 0) (pa_cons pe_int pa_nil))) pa_nil))))
 (pss_cons (ps_set (i := 9) sc_law.nd rfl (by first | exact Or.inl rfl | exact Or.inr rfl) (pe_callR R_law_place (hr.mono (by decide)) rfl pass0 (pa_cons (pv 6) (pa_cons (pe_callR R_law_cell_at (hr.mono (by decide)) rfl pass0 (pa_cons (pv 0) (pa_cons pe_int pa_nil))) pa_nil))))
 (pss_cons (ps_set (i := 10) sc_law.nd rfl (by first | exact Or.inl rfl | exact Or.inr rfl) (pe_ix ix_seq (pv 1) (pe_op op_mod (pe_callR R_law_cell_at (hr.mono (by decide)) rfl pass0 (pa_cons (pv 0) (pa_cons pe_int pa_nil))) pe_int) (fun _ _ => rfl)))
 (pss_cons (ps_set (i := 11) sc_law.nd rfl (by first | exact Or.inl rfl | exact Or.inr rfl) (pe_op op_addA pe_int (pe_op op_mod (pe_callR R_law_cell_at (hr.mono (by decide)) rfl pass0 (pa_cons (pv 0) (pa_cons pe_int pa_nil))) pe_int)))
 (pss_cons (ps_if (pt_not (pt_val (pe_callR R_law_held (hr.mono (by decide)) rfl pass0 (pa_cons (pe_callR R_value_at (hr.mono (by decide)) rfl pass0 (pa_cons (pv 3) (pa_cons (pv 8) pa_nil))) (pa_cons (pe_callR R_law_at (hr.mono (by decide)) rfl pass0 (pa_cons (pv 6) (pa_cons (pv 8) pa_nil))) pa_nil))))) (pss_one (ps_ret pe_bl)) pss_nil)
 (pss_cons (ps_if (pt_not (pt_val (pe_callR R_law_asked (hr.mono (by decide)) rfl pass0 (pa_cons (pv 3) (pa_cons (pv 6) (pa_cons (pv 8) (pa_cons (pv 9) (pa_cons (pv 10) (pa_cons (pv 11) pa_nil))))))))) (pss_one (ps_ret pe_bl)) pss_nil)
 (pss_cons (ps_if (pt_not (pt_val (pe_callR R_law_told (hr.mono (by decide)) rfl pass0 (pa_cons (pe_callR R_parted (hr.mono (by decide)) rfl pass0 (pa_cons (pv 3) (pa_cons (pv 4) (pa_cons (pv 8) pa_nil)))) (pa_cons (pe_callR R_law_apart (hr.mono (by decide)) rfl pass0 (pa_cons (pv 6) (pa_cons (pv 7) (pa_cons (pv 8) pa_nil)))) pa_nil))))) (pss_one (ps_ret pe_bl)) pss_nil)
 (pss_cons (ps_set (i := 12) sc_law.nd rfl (by first | exact Or.inl rfl | exact Or.inr rfl) (pe_callR R_joined (hr.mono (by decide)) rfl pass0 (pa_cons (pv 3) (pa_cons (pv 4) (pa_cons (pe_glob (v := .ref fa) rfl ga rfl) pa_nil)))))
 (pss_one (ps_ret (pe_callR R_law_asked (hr.mono (by decide)) rfl pass0 (pa_cons (pv 12) (pa_cons (pe_callR R_law_both (hr.mono (by decide)) rfl pass0 (pa_cons (pv 6) (pa_cons (pv 7) pa_nil))) (pa_cons (pv 8) (pa_cons (pv 9) (pa_cons (pe_op op_mod (pe_callR R_law_cell_at (hr.mono (by decide)) rfl pass0 (pa_cons (pv 0) (pa_cons pe_int pa_nil))) pe_int) (pa_cons (pv 11) pa_nil)))))))))))))))))))))))), ?_⟩
    change Wk.go _ _ [_, none, none, none, none, none, none, none, none, none, none, none, none] H
    (try dsimp only [Wk.cxK, Wk.cxKn, Wk.cxW, Wk.cxWn, Wk.cxP, Wk.cxPn])
    walk_at "go"
    refine ⟨a, ns, 0, rfl, hS, ?_⟩
    walk_at "go"
    refine ⟨_, rfl, fun H1 nm z1 z2 z3 n1 s1 w1 w2 w3 e1 => ?_⟩
    have hS1 := s1.seq hS
    walk_at "go"
    rename_i sl H2 n2 s2 e2
    rw [cutFrom (k := 6) (n := 6) rfl, ← List.map_drop] at e2
    refine ⟨_, _, ns.drop 6, .non, .str z1, .str z2, .str z3, rfl, SqL.of e2, SqL.of (s2 _ _ e1), .inl rfl, .inr ⟨_, w1, rfl⟩, .inr ⟨_, w2, rfl⟩, .inr ⟨_, w3, rfl⟩, by rw [List.length_drop]; omega, fun H3 b ds n3 s3 hD hl => ?_⟩
    rw [List.length_drop] at hl
    have s03 := Same.via s1 (Same.via s2 s3)
    have e13 := s3 _ _ (s2 _ _ e1)
    walk_at "go"
    refine ⟨rfl, fun H4 p n4 s4 l4 => ?_⟩
    obtain ⟨as, hA, hal, hall⟩ := id (hD.same s4)
    have hL0 : LineOk C H4 p .non [] := ⟨l4, List.Pairwise.nil, True.intro, fun x hx => by rw [List.mem_singleton.mp hx]; exact .inl rfl⟩
    walk_at "go"
    refine Wk.g_kForL (SqL.of hA)
      (fun i σ' H' => ∃ (p o : Addr) (y5 : Option V) (v u : V) (ps qs : List (Int × V)), σ' = [some (.ref a), some (.ref nm), some (.ref b), some (.ref p), some (.ref o), y5, none, none, none, none, none, none, none] ∧ Same H4 H' ∧ LineOk C H' p v ps ∧ ps.length ≤ 2 * i ∧ (∀ x, at_ v ps x = after .non (ds.take i) x) ∧ LineOk C H' o u qs ∧ qs.length ≤ 2 * i ∧ (∀ x, at_ u qs x = after .non (ds.take i).dropLast x))
      ⟨p, p, none, .non, .non, [], [], rfl, Same.refl _, hL0, Nat.zero_le _, fun x => rfl, hL0, Nat.zero_le _, fun x => rfl⟩ (fun i σ' H' hP => ?_) (fun i x σ' H' hx hP => ?_) (fun σ' H' hP => ?_)
    · obtain ⟨_, _, _, _, _, _, _, _, sH, _⟩ := hP
      exact SqL.of (sH _ _ hA)
    · obtain ⟨p, o, y5, v, u, ps, qs, rfl, sH, hL, hpl, hat, _⟩ := hP
      obtain ⟨c, hb, rfl⟩ := Wk.ref_at hx
      have hi : i < ds.length := by have := (List.getElem?_eq_some_iff.mp hb).1; omega
      obtain ⟨d, hd⟩ : ∃ d, ds[i]? = some d := ⟨_, List.getElem?_eq_getElem hi⟩
      obtain ⟨ht, hdo⟩ := hall i c d hb hd
      have etk : ds.take (i + 1) = ds.take i ++ [d] := by rw [List.take_add_one, hd] <;> rfl
      walk_at "go"
      refine ⟨p, c, v, ps, d, rfl, hL, sH _ _ ht, hdo, by omega, fun H5 p' v' ps' n5 s5 hL' hl' hat' => ?_⟩
      walk_at "go"
      refine ⟨p', p, _, v', v, ps', ps, rfl, Same.via sH s5, hL', by omega, fun x => ?_, hL.same s5, by omega, fun x => ?_⟩
      · rw [hat' x, etk, after_snoc, funext hat]
      · rw [hat x, etk, List.dropLast_concat]
    · obtain ⟨p, o, y5, v, u, ps, qs, rfl, sH, hL, hpl, hat, hM, hql, hat2⟩ := hP
      rw [List.length_map, hal] at hpl hql hat hat2
      rw [List.take_length] at hat hat2
      have hpl : ps.length ≤ 57 := by omega
      have hql : qs.length ≤ 57 := by omega
      have s0H := Same.via s03 (Same.via s4 sH)
      have hDH := hD.same (Same.via s4 sH)
      have cell : ∀ {H'' : Hp} (k : Nat) {Q : VK}, Same H' H'' → Q (.int (ns.getD k 0)) H'' → sp_law_cell_at K [.ref a, .int k] H'' Q E0 := @fun _ k _ s q => ⟨a, ns, k, rfl, (Same.via s0H s).seq hS, q⟩
      walk_at "go"
      refine ⟨b, ds, rfl, hDH, by omega, fun H5 t lc lh v1 ps1 n5 s5 T hr1 hn1 hv1 hl1 hat1 => ?_⟩
      obtain ⟨rfl, rfl⟩ := uniq' hL.ris hL.nrm hr1 hn1 fun x => (hat x).trans (hat1 x).symm
      obtain ⟨bs, hbs, hbl, hball⟩ := id (hDH.same s5)
      walk_at "go"
      rename_i sl2 H6 n6 s6 e6
      have ecut : cutV (bs.map V.ref) none (some (-1)) = (bs.dropLast).map V.ref := by
        rw [List.map_dropLast]
        unfold cutV
        show ((bs.map V.ref).drop 0).take (HT.sIx (bs.map V.ref).length (bs.map V.ref).length (some (-1)) - 0) = _
        rw [List.drop_zero, Nat.sub_zero, List.dropLast_eq_take]
        congr 1
        show (-1 + ((bs.map V.ref).length : Int)).toNat = _
        omega
      rw [ecut] at e6
      have hDd : DeedsAt H6 sl2 ds.dropLast := ⟨bs.dropLast, e6, by rw [List.length_dropLast, List.length_dropLast, hbl], fun i c d h1 h2 => by
        rw [List.getElem?_dropLast] at h1 h2
        split at h1
        · rw [if_pos (by omega)] at h2
          have := hball i c d h1 h2
          exact ⟨s6 _ _ this.1, this.2⟩
        · cases h1⟩
      have s56 := Same.via s5 s6
      refine ⟨sl2, ds.dropLast, rfl, hDd, by rw [List.length_dropLast]; omega, fun H7 t' lc' lh' u1 qs1 n7 s7 T' hr2 hn2 hv2 hl2 hat2' => ?_⟩
      obtain ⟨rfl, rfl⟩ := uniq' hM.ris hM.nrm hr2 hn2 fun x => (hat2 x).trans (hat2' x).symm
      have sH7 := Same.via s56 s7
      have T7 := T.same (Same.via s6 s7)
      walk_at "go"
      refine cell 1 sH7 ?_
      walk_at "go"
      refine ⟨t, lc, lh, v, ps, _, rfl, T7, by omega, fun H8 st s8 => ?_⟩
      walk_at "go"
      refine cell 2 (Same.via sH7 s8) ?_
      walk_at "go"
      refine ⟨t, lc, lh, v, ps, _, rfl, T7.same s8, by omega, fun H9 en s9 => ?_⟩
      have s79 := Same.via s8 s9
      have sH9 := Same.via sH7 s79
      obtain ⟨val, hval, hvalv⟩ := nm_at (n1 := .non) (n2 := .str z1) (n3 := .str z2) (n4 := .str z3) (i := ns.getD 3 0 % 4) (by omega) (by omega) (.inl rfl) (.inr ⟨_, w1, rfl⟩) (.inr ⟨_, w2, rfl⟩) (.inr ⟨_, w3, rfl⟩)
      have hnm := (Same.via (Same.via s4 sH) sH9) _ _ e13
      walk_at "go"
      refine cell 3 sH9 ?_
      walk_at "go"
      refine cell 4 sH9 ?_
      walk_at "go"
      refine ⟨p, v, ps, st, rfl, (hL.same sH9).at', hL.ris.srt, fun H10 s10 => ?_⟩
      walk_at "go"
      refine ⟨t, lc, lh, v, ps, st, rfl, T7.same (Same.via s79 s10), by omega, fun H11 s11 => ?_⟩
      walk_at "go"
      refine ⟨_, rfl, hL.hv _ at_mem, ?_⟩
      have s711 := Same.via s79 (Same.via s10 s11)
      have sH11 := Same.via sH7 s711
      walk_at "go"
      refine ⟨p, t, lc, lh, v, v, ps, ps, st, en, _, val, rfl, (hL.same sH11).at', hL.ris, hL.nrm, by omega, hL.hv.flat, T7.same s711, hL.hv.flat, by omega, fun x => rfl, hvalv.flat, by omega, fun H12 s12 => ?_⟩
      have s712 := Same.via s711 s12
      have sH12 := Same.via sH7 s712
      walk_at "go"
      refine ⟨p, o, v, u, ps, qs, st, rfl, (hL.same sH12).at', (hM.same sH12).at', hL.ris.srt, hM.ris.srt, by omega, by omega, hL.hv.flat, hM.hv.flat, fun H13 res s13 hres => ?_⟩
      walk_at "go"
      refine ⟨t, lc, lh, t', lc', lh', v, u, ps, qs, st, rfl, T7.same (Same.via s712 s13), T'.same (Same.via s712 s13), by omega, by omega, hL.hv.flat, hM.hv.flat, fun H14 res2 s14 hres2 => ?_⟩
      obtain rfl := part_uniq hres hres2
      walk_at "go"
      refine ⟨_, _, rfl, ?_, fun H15 s15 => ?_⟩
      · cases res with
        | none => exact .inl ⟨rfl, rfl⟩
        | some y => exact .inr (.inl ⟨y, rfl, rfl⟩)
      have s715 := Same.via s712 (Same.via s13 (Same.via s14 s15))
      have sH15 := Same.via sH7 s715
      walk_at "go"
      refine ⟨p, o, v, u, ps, qs, rfl, (hL.same sH15).at', (hM.same sH15).at', hL.ris.srt, hM.ris.srt, by omega, by omega, hL.hv.flat, hM.hv.flat, fun H16 j vj pj n16 s16 hJ hjr hjn hjf hjl hja => ?_⟩
      have s716 := Same.via s715 s16
      walk_at "go"
      refine ⟨t, lc, lh, t', lc', lh', v, u, ps, qs, rfl, T7.same s716, T'.same s716, by omega, by omega, hL.hv.flat, hM.hv.flat, fun H17 tb mc mh vb pb n17 s17 Tb hbs' hbf hbl' hba => ?_⟩
      have sH17 := Same.via sH7 (Same.via s716 s17)
      walk_at "go"
      refine cell 5 sH17 ?_
      walk_at "go"
      refine ⟨j, tb, mc, mh, vj, vb, pj, pb, st, en, _, _, rfl, hJ.same s17, hjr, hjn, by omega, hjf, Tb, hbf, by omega, fun x => (hja x).trans (hba x).symm, .inr (.inr ⟨_, rfl⟩), by omega, fun H18 s18 => ?_⟩
      exact q _

theorem all_ok (B : Bt mg) {C fI : Addr} (L : LineC K mg C fI) (D_Line_init : MetAt K "__init__" "Line.__init__" s_Line_init fI) (D_line_of : DefAt K mg "line_of" s_line_of) (D_empty_line : DefAt K mg "empty_line" s_empty_line) (D_value_at : DefAt K mg "value_at" s_value_at) (D_behind : DefAt K mg "behind" s_behind) (D_ahead : DefAt K mg "ahead" s_ahead) (D_end_of_run : DefAt K mg "end_of_run" s_end_of_run) (D_runs : DefAt K mg "runs" s_runs) (D_tally : DefAt K mg "tally" s_tally) (D_longest : DefAt K mg "longest" s_longest) (D_first_room : DefAt K mg "first_room" s_first_room) (D_parted : DefAt K mg "parted" s_parted) (D_put : DefAt K mg "put" s_put) (D_opened : DefAt K mg "opened" s_opened) (D_closed : DefAt K mg "closed" s_closed) (D_stretched : DefAt K mg "stretched" s_stretched) (D_done : DefAt K mg "done" s_done) (D_joined : DefAt K mg "joined" s_joined) (D_law_cell_at : DefAt K mg "_law_cell_at" s_law_cell_at) (D_law_names : DefAt K mg "_law_names" s_law_names) (D_law_deed : DefAt K mg "_law_deed" s_law_deed) (D_law_deeds : DefAt K mg "_law_deeds" s_law_deeds) (D_law_value : DefAt K mg "_law_value" s_law_value) (D_law_edges_behind : DefAt K mg "_law_edges_behind" s_law_edges_behind) (D_law_edges : DefAt K mg "_law_edges" s_law_edges) (D_law_due : DefAt K mg "_law_due" s_law_due) (D_law_whole : DefAt K mg "_law_whole" s_law_whole) (D_law_held : DefAt K mg "_law_held" s_law_held) (D_law_at : DefAt K mg "_law_at" s_law_at) (D_law_runs : DefAt K mg "_law_runs" s_law_runs) (D_law_longest : DefAt K mg "_law_longest" s_law_longest) (D_law_room : DefAt K mg "_law_room" s_law_room) (D_law_apart : DefAt K mg "_law_apart" s_law_apart) (D_law_place : DefAt K mg "_law_place" s_law_place) (D_law_told : DefAt K mg "_law_told" s_law_told) (D_law_parts : DefAt K mg "_law_parts" s_law_parts) (D_law_asked : DefAt K mg "_law_asked" s_law_asked) (D_law_alike_by : DefAt K mg "_law_alike_by" s_law_alike_by) (D_law_both : DefAt K mg "_law_both" s_law_both) {f : Addr} {fd : FuncData} (F : Fun K "law" "law" s_law f fd) : FnOk P w K mg base CX0 6 f fd ["script"] (sp_law K) := by
  have R_Line_init := ok_Line_init (P := P) (w := w) (base := base) L D_Line_init
  have R_value_at := ok_value_at (P := P) (w := w) (base := base) B L D_value_at
  have R_behind := ok_behind (P := P) (w := w) (base := base) B L D_behind
  have R_ahead := ok_ahead (P := P) (w := w) (base := base) B L D_ahead
  have R_law_cell_at := ok_law_cell_at (P := P) (w := w) (base := base) B D_law_cell_at
  have R_law_names := ok_law_names (P := P) (w := w) (base := base) B D_law_names
  have R_law_deed := ok_law_deed (P := P) (w := w) (base := base) B D_law_deed
  have R_law_value := ok_law_value (P := P) (w := w) (base := base) B D_law_value
  have R_law_edges_behind := ok_law_edges_behind (P := P) (w := w) (base := base) B D_law_edges_behind
  have R_law_whole := ok_law_whole (P := P) (w := w) (base := base) B D_law_whole
  have R_law_held := ok_law_held (P := P) (w := w) (base := base) B D_law_held
  have R_law_at := ok_law_at (P := P) (w := w) (base := base) B D_law_at
  have R_law_longest := ok_law_longest (P := P) (w := w) (base := base) B D_law_longest
  have R_law_place := ok_law_place (P := P) (w := w) (base := base) B D_law_place
  have R_law_parts := ok_law_parts (P := P) (w := w) (base := base) B D_law_parts
  have R_law_alike_by := ok_law_alike_by (P := P) (w := w) (base := base) B D_law_alike_by
  have R_end_of_run := ok_end_of_run (P := P) (w := w) (base := base) B L R_behind D_end_of_run
  have R_parted := ok_parted (P := P) (w := w) (base := base) B L R_behind R_value_at D_parted
  have R_law_deeds := ok_law_deeds (P := P) (w := w) (base := base) B R_law_deed D_law_deeds
  have R_law_edges := ok_law_edges (P := P) (w := w) (base := base) B R_law_edges_behind D_law_edges
  have R_law_runs := ok_law_runs (P := P) (w := w) (base := base) B R_law_at D_law_runs
  have R_law_room := ok_law_room (P := P) (w := w) (base := base) B R_law_at D_law_room
  have R_law_apart := ok_law_apart (P := P) (w := w) (base := base) B R_law_at D_law_apart
  have R_law_told := ok_law_told (P := P) (w := w) (base := base) B R_law_whole D_law_told
  have R_law_both := ok_law_both (P := P) (w := w) (base := base) B R_law_at D_law_both
  have R_line_of := ok_line_of (P := P) (w := w) (base := base) B L R_Line_init D_line_of
  have R_empty_line := ok_empty_line (P := P) (w := w) (base := base) B L R_Line_init D_empty_line
  have R_runs := ok_runs (P := P) (w := w) (base := base) B L R_end_of_run R_value_at D_runs
  have R_first_room := ok_first_room (P := P) (w := w) (base := base) B L R_end_of_run R_value_at D_first_room
  have R_law_due := ok_law_due (P := P) (w := w) (base := base) B R_law_edges R_law_value D_law_due
  have R_tally := ok_tally (P := P) (w := w) (base := base) B L R_runs D_tally
  have R_longest := ok_longest (P := P) (w := w) (base := base) B L R_runs D_longest
  have R_put := ok_put (P := P) (w := w) (base := base) B L R_line_of R_ahead R_behind R_value_at D_put
  have R_opened := ok_opened (P := P) (w := w) (base := base) B L R_line_of R_ahead R_behind R_value_at D_opened
  have R_closed := ok_closed (P := P) (w := w) (base := base) B L R_line_of R_ahead R_behind R_value_at D_closed
  have R_stretched := ok_stretched (P := P) (w := w) (base := base) B L R_line_of D_stretched
  have R_joined := ok_joined (P := P) (w := w) (base := base) B L R_line_of R_value_at R_law_alike_by D_joined
  have R_done := ok_done (P := P) (w := w) (base := base) B L R_put R_opened R_closed R_stretched D_done
  have R_law_asked := ok_law_asked (P := P) (w := w) (base := base) B L R_runs R_tally R_longest R_first_room R_law_runs R_law_longest R_law_room R_law_told R_law_parts D_law_asked
  exact ok_law B L R_empty_line R_done R_value_at R_parted R_joined R_law_cell_at R_law_names R_law_deeds R_law_due R_law_held R_law_at R_law_apart R_law_place R_law_told R_law_asked R_law_both F

end
end Cut
open PySem PySem.W PyProof.Rows
set_option maxHeartbeats 0 in
theorem PySem.Challenge.cw_cutline_k15_whole_asked_behind_deeds_holds : PySem.Challenge.rw_cutline_k15_whole_asked_behind_deeds.Holds := by
  w_on; o_law; k_head; (case hw => w_witness2)
  k_fill
  refine L2.walk_of (l := PySem.Challenge.rw_cutline_k15_whole_asked_behind_deeds) (n := 63) (k := 6) (x := "script") (CX := fun _ => L2.CX0) (sp := fun w => Cut.sp_law _) rfl (by decide) rfl ⟨rfl, by decide, by decide⟩ (fun w h Y => PySem.W.kIn_of Y) ?F (fun _ _ a ns hl _ hS => ⟨a, ns, rfl, hS, hl, fun _ => rfl⟩) (fun _ _ _ _ _ h => h)
  case F =>
    intro w mg fa h KX G hmg
    have B : Wk.Bt mg := by
      refine' ⟨PySem.W.mg_none_of KX G ?b0, PySem.W.mg_none_of KX G ?b1, PySem.W.mg_none_of KX G ?b2, PySem.W.mg_none_of KX G ?b3, PySem.W.mg_none_of KX G ?b4, PySem.W.mg_none_of KX G ?b5, PySem.W.mg_none_of KX G ?b6, PySem.W.mg_none_of KX G ?b7, PySem.W.mg_none_of KX G ?b8, PySem.W.mg_none_of KX G ?b9, PySem.W.mg_none_of KX G ?b10, PySem.W.mg_none_of KX G ?b11, PySem.W.mg_none_of KX G ?b12, PySem.W.mg_none_of KX G ?b13, PySem.W.mg_none_of KX G ?b14, PySem.W.mg_none_of KX G ?b15, PySem.W.mg_none_of KX G ?b16⟩
      (case b0 => k_is)
      (case b1 => k_is)
      (case b2 => k_is)
      (case b3 => k_is)
      (case b4 => k_is)
      (case b5 => k_is)
      (case b6 => k_is)
      (case b7 => k_is)
      (case b8 => k_is)
      (case b9 => k_is)
      (case b10 => k_is)
      (case b11 => k_is)
      (case b12 => k_is)
      (case b13 => k_is)
      (case b14 => k_is)
      (case b15 => k_is)
      (case b16 => k_is)
    have LD : Wk.LineEx KX mg Cut.s_Line_init := by
      refine' Wk.line_mk KX G ?aC ?i1 ?f1 ?l1 ?c1 ?k1 ?pg ?hd ?po ?sa ?nC ?nH ?mk ?kC ?ha ?hn ?htk ?hm
      (case aC => k_is)
      (case i1 => k_is)
      (case f1 => k_is)
      (case l1 => k_is)
      (case c1 => k_is)
      (case k1 => k_is)
      (case pg => k_is)
      (case hd => k_is)
      (case po => k_is)
      (case sa => k_is)
      (case nC => k_is)
      (case nH => k_is)
      (case mk => k_is)
      (case kC => k_is)
      (case ha => k_is)
      (case hn => k_is)
      (case htk => k_is)
      (case hm => k_is)
    obtain ⟨C, fI, L, D_Line_init⟩ := LD
    have D_line_of : Wk.DefEx KX mg "line_of" Cut.s_line_of := by
      refine' Wk.defAt_mk KX G ?a ?l ?c ?k
      (case a => k_is)
      (case l => k_is)
      (case c => k_is)
      (case k => k_is)
    have D_empty_line : Wk.DefEx KX mg "empty_line" Cut.s_empty_line := by
      refine' Wk.defAt_mk KX G ?a ?l ?c ?k
      (case a => k_is)
      (case l => k_is)
      (case c => k_is)
      (case k => k_is)
    have D_value_at : Wk.DefEx KX mg "value_at" Cut.s_value_at := by
      refine' Wk.defAt_mk KX G ?a ?l ?c ?k
      (case a => k_is)
      (case l => k_is)
      (case c => k_is)
      (case k => k_is)
    have D_behind : Wk.DefEx KX mg "behind" Cut.s_behind := by
      refine' Wk.defAt_mk KX G ?a ?l ?c ?k
      (case a => k_is)
      (case l => k_is)
      (case c => k_is)
      (case k => k_is)
    have D_ahead : Wk.DefEx KX mg "ahead" Cut.s_ahead := by
      refine' Wk.defAt_mk KX G ?a ?l ?c ?k
      (case a => k_is)
      (case l => k_is)
      (case c => k_is)
      (case k => k_is)
    have D_end_of_run : Wk.DefEx KX mg "end_of_run" Cut.s_end_of_run := by
      refine' Wk.defAt_mk KX G ?a ?l ?c ?k
      (case a => k_is)
      (case l => k_is)
      (case c => k_is)
      (case k => k_is)
    have D_runs : Wk.DefEx KX mg "runs" Cut.s_runs := by
      refine' Wk.defAt_mk KX G ?a ?l ?c ?k
      (case a => k_is)
      (case l => k_is)
      (case c => k_is)
      (case k => k_is)
    have D_tally : Wk.DefEx KX mg "tally" Cut.s_tally := by
      refine' Wk.defAt_mk KX G ?a ?l ?c ?k
      (case a => k_is)
      (case l => k_is)
      (case c => k_is)
      (case k => k_is)
    have D_longest : Wk.DefEx KX mg "longest" Cut.s_longest := by
      refine' Wk.defAt_mk KX G ?a ?l ?c ?k
      (case a => k_is)
      (case l => k_is)
      (case c => k_is)
      (case k => k_is)
    have D_first_room : Wk.DefEx KX mg "first_room" Cut.s_first_room := by
      refine' Wk.defAt_mk KX G ?a ?l ?c ?k
      (case a => k_is)
      (case l => k_is)
      (case c => k_is)
      (case k => k_is)
    have D_parted : Wk.DefEx KX mg "parted" Cut.s_parted := by
      refine' Wk.defAt_mk KX G ?a ?l ?c ?k
      (case a => k_is)
      (case l => k_is)
      (case c => k_is)
      (case k => k_is)
    have D_put : Wk.DefEx KX mg "put" Cut.s_put := by
      refine' Wk.defAt_mk KX G ?a ?l ?c ?k
      (case a => k_is)
      (case l => k_is)
      (case c => k_is)
      (case k => k_is)
    have D_opened : Wk.DefEx KX mg "opened" Cut.s_opened := by
      refine' Wk.defAt_mk KX G ?a ?l ?c ?k
      (case a => k_is)
      (case l => k_is)
      (case c => k_is)
      (case k => k_is)
    have D_closed : Wk.DefEx KX mg "closed" Cut.s_closed := by
      refine' Wk.defAt_mk KX G ?a ?l ?c ?k
      (case a => k_is)
      (case l => k_is)
      (case c => k_is)
      (case k => k_is)
    have D_stretched : Wk.DefEx KX mg "stretched" Cut.s_stretched := by
      refine' Wk.defAt_mk KX G ?a ?l ?c ?k
      (case a => k_is)
      (case l => k_is)
      (case c => k_is)
      (case k => k_is)
    have D_done : Wk.DefEx KX mg "done" Cut.s_done := by
      refine' Wk.defAt_mk KX G ?a ?l ?c ?k
      (case a => k_is)
      (case l => k_is)
      (case c => k_is)
      (case k => k_is)
    have D_joined : Wk.DefEx KX mg "joined" Cut.s_joined := by
      refine' Wk.defAt_mk KX G ?a ?l ?c ?k
      (case a => k_is)
      (case l => k_is)
      (case c => k_is)
      (case k => k_is)
    have D_law_cell_at : Wk.DefEx KX mg "_law_cell_at" Cut.s_law_cell_at := by
      refine' Wk.defAt_mk KX G ?a ?l ?c ?k
      (case a => k_is)
      (case l => k_is)
      (case c => k_is)
      (case k => k_is)
    have D_law_names : Wk.DefEx KX mg "_law_names" Cut.s_law_names := by
      refine' Wk.defAt_mk KX G ?a ?l ?c ?k
      (case a => k_is)
      (case l => k_is)
      (case c => k_is)
      (case k => k_is)
    have D_law_deed : Wk.DefEx KX mg "_law_deed" Cut.s_law_deed := by
      refine' Wk.defAt_mk KX G ?a ?l ?c ?k
      (case a => k_is)
      (case l => k_is)
      (case c => k_is)
      (case k => k_is)
    have D_law_deeds : Wk.DefEx KX mg "_law_deeds" Cut.s_law_deeds := by
      refine' Wk.defAt_mk KX G ?a ?l ?c ?k
      (case a => k_is)
      (case l => k_is)
      (case c => k_is)
      (case k => k_is)
    have D_law_value : Wk.DefEx KX mg "_law_value" Cut.s_law_value := by
      refine' Wk.defAt_mk KX G ?a ?l ?c ?k
      (case a => k_is)
      (case l => k_is)
      (case c => k_is)
      (case k => k_is)
    have D_law_edges_behind : Wk.DefEx KX mg "_law_edges_behind" Cut.s_law_edges_behind := by
      refine' Wk.defAt_mk KX G ?a ?l ?c ?k
      (case a => k_is)
      (case l => k_is)
      (case c => k_is)
      (case k => k_is)
    have D_law_edges : Wk.DefEx KX mg "_law_edges" Cut.s_law_edges := by
      refine' Wk.defAt_mk KX G ?a ?l ?c ?k
      (case a => k_is)
      (case l => k_is)
      (case c => k_is)
      (case k => k_is)
    have D_law_due : Wk.DefEx KX mg "_law_due" Cut.s_law_due := by
      refine' Wk.defAt_mk KX G ?a ?l ?c ?k
      (case a => k_is)
      (case l => k_is)
      (case c => k_is)
      (case k => k_is)
    have D_law_whole : Wk.DefEx KX mg "_law_whole" Cut.s_law_whole := by
      refine' Wk.defAt_mk KX G ?a ?l ?c ?k
      (case a => k_is)
      (case l => k_is)
      (case c => k_is)
      (case k => k_is)
    have D_law_held : Wk.DefEx KX mg "_law_held" Cut.s_law_held := by
      refine' Wk.defAt_mk KX G ?a ?l ?c ?k
      (case a => k_is)
      (case l => k_is)
      (case c => k_is)
      (case k => k_is)
    have D_law_at : Wk.DefEx KX mg "_law_at" Cut.s_law_at := by
      refine' Wk.defAt_mk KX G ?a ?l ?c ?k
      (case a => k_is)
      (case l => k_is)
      (case c => k_is)
      (case k => k_is)
    have D_law_runs : Wk.DefEx KX mg "_law_runs" Cut.s_law_runs := by
      refine' Wk.defAt_mk KX G ?a ?l ?c ?k
      (case a => k_is)
      (case l => k_is)
      (case c => k_is)
      (case k => k_is)
    have D_law_longest : Wk.DefEx KX mg "_law_longest" Cut.s_law_longest := by
      refine' Wk.defAt_mk KX G ?a ?l ?c ?k
      (case a => k_is)
      (case l => k_is)
      (case c => k_is)
      (case k => k_is)
    have D_law_room : Wk.DefEx KX mg "_law_room" Cut.s_law_room := by
      refine' Wk.defAt_mk KX G ?a ?l ?c ?k
      (case a => k_is)
      (case l => k_is)
      (case c => k_is)
      (case k => k_is)
    have D_law_apart : Wk.DefEx KX mg "_law_apart" Cut.s_law_apart := by
      refine' Wk.defAt_mk KX G ?a ?l ?c ?k
      (case a => k_is)
      (case l => k_is)
      (case c => k_is)
      (case k => k_is)
    have D_law_place : Wk.DefEx KX mg "_law_place" Cut.s_law_place := by
      refine' Wk.defAt_mk KX G ?a ?l ?c ?k
      (case a => k_is)
      (case l => k_is)
      (case c => k_is)
      (case k => k_is)
    have D_law_told : Wk.DefEx KX mg "_law_told" Cut.s_law_told := by
      refine' Wk.defAt_mk KX G ?a ?l ?c ?k
      (case a => k_is)
      (case l => k_is)
      (case c => k_is)
      (case k => k_is)
    have D_law_parts : Wk.DefEx KX mg "_law_parts" Cut.s_law_parts := by
      refine' Wk.defAt_mk KX G ?a ?l ?c ?k
      (case a => k_is)
      (case l => k_is)
      (case c => k_is)
      (case k => k_is)
    have D_law_asked : Wk.DefEx KX mg "_law_asked" Cut.s_law_asked := by
      refine' Wk.defAt_mk KX G ?a ?l ?c ?k
      (case a => k_is)
      (case l => k_is)
      (case c => k_is)
      (case k => k_is)
    have D_law_alike_by : Wk.DefEx KX mg "_law_alike_by" Cut.s_law_alike_by := by
      refine' Wk.defAt_mk KX G ?a ?l ?c ?k
      (case a => k_is)
      (case l => k_is)
      (case c => k_is)
      (case k => k_is)
    have D_law_both : Wk.DefEx KX mg "_law_both" Cut.s_law_both := by
      refine' Wk.defAt_mk KX G ?a ?l ?c ?k
      (case a => k_is)
      (case l => k_is)
      (case c => k_is)
      (case k => k_is)
    refine' Wk.law_end (st := Cut.s_law) KX G hmg (fun base fd F => Cut.all_ok B L D_Line_init D_line_of D_empty_line D_value_at D_behind D_ahead D_end_of_run D_runs D_tally D_longest D_first_room D_parted D_put D_opened D_closed D_stretched D_done D_joined D_law_cell_at D_law_names D_law_deed D_law_deeds D_law_value D_law_edges_behind D_law_edges D_law_due D_law_whole D_law_held D_law_at D_law_runs D_law_longest D_law_room D_law_apart D_law_place D_law_told D_law_parts D_law_asked D_law_alike_by D_law_both F) (fun s v => .of_eq rfl) ?a ?l ?c ?k
    (case a => k_is)
    (case l => k_is)
    (case c => k_is)
    (case k => k_is)
