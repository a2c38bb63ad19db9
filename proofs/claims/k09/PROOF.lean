import PyProof.Rows.All
import Wide.All
import OpenK.AllK
import Wide.FinOn
import HandS.ForMost
import HandS.ForExc
import HandS.IsInst
import HandS.SetFor
import HandS.Strs
import HandS.SortInts
import HandS.Set
import HandS.Style
import PyProof.Rows.SortShellAny
import HandS.ExcIs
import HandS.ExcOwn
import HandS.TryOnly
import HandS.TryMany
import HandS.CallLocal
import HandS.More
import HandS.Small
import HandS.Codes
import HandS.ReplaceList
import HandS.ReplaceLit
import HandS.ReplaceDef
import HandS.Lambda
import HandS.Nested
import HandS.EndTab
import PySem.Challenge.RW_cutline_k09_whole_joined
set_option Elab.async false
set_option linter.all false
set_option maxRecDepth 100000
/-! walking rules: each reading's constructor taken from the left, heaps kept abstract -/
namespace Wk
open PySem PySem.Spec PyProof.Rows L2

/-! ### heaps -/
/-- all but l as it was -/
def Mv (H : Hp) (l : Addr) (H' : Hp) : Prop := ∀ b, b ≠ l → H' b = H b
theorem same_new {H : Hp} {p : Addr} {o : HO} (h : H p = none) : Same H (upd H p o) := fun b u e => by
  rw [upd_ne (ne_of_none e h)]
  exact e
theorem mv_upd {H : Hp} {p : Addr} {o : HO} : Mv H p (upd H p o) := fun b h => upd_ne h
theorem Same.via {A B C : Hp} (a : Same A B) (b : Same B C) : Same A C := fun c o h => b c o (a c o h)
theorem Same.mutd {A B C : Hp} {l : Addr} (a : Same A B) (m : Mv B l C) (n : A l = none) : Same A C := fun c o h => by
  rw [m c (ne_of_none h n)]
  exact a c o h
theorem get_via {A B : Hp} {p : Addr} {o : HO} (s : Same A B) (h : A p = some o) : B p = some o := s p o h
theorem get_mv {A B : Hp} {p l : Addr} {o : HO} (m : Mv A l B) (n : p ≠ l) (h : A p = some o) : B p = some o := by
  rw [m p n]
  exact h
theorem fresh_back {A B : Hp} {p : Addr} (s : Same A B) (h : B p = none) : A p = none := by
  cases q : A p with
  | none => rfl
  | some o =>
    rw [s p o q] at h
    cases h
theorem seqT {K : PySem.W.Frag} {H H' : Hp} {a : Addr} {xs : List V} (e : Same H H') (h : SqT K H a xs) : SqT K H' a xs := by
  rcases h with (h | ⟨o, h⟩) | h
  · exact .inl (.inl (e _ _ h))
  · exact .inl (.inr ⟨o, e _ _ h⟩)
  · exact .inr h
theorem seqL {K : PySem.W.Frag} {H H' : Hp} {a : Addr} {xs : List V} (e : Same H H') (h : SqL K H a xs) : SqL K H' a xs := Same.seq e h
theorem sz {n : Nat} (h : n ≤ 100000) : n ≤ sizeLine := Nat.le_trans h (by decide)
theorem szl {n : Nat} (h : n < 100000) : n < sizeLine := Nat.lt_of_lt_of_le h (by decide)

/-! ### data read deep -/
theorem dp_all_get {K : PySem.W.Frag} {H : Hp} : ∀ {vs : List V} {ds : List PyData}, DpAll K H vs ds → vs.length = ds.length
  | _, _, .nil => rfl
  | _, _, .cons _ t => by rw [List.length_cons, List.length_cons, dp_all_get t]
mutual
theorem dp_same {K : PySem.W.Frag} {H H' : Hp} (e : Same H H') : ∀ {v : V} {d : PyData}, Dp K H v d → Dp K H' v d
  | _, _, .non => .non
  | _, _, .bl b => .bl b
  | _, _, .int i => .int i
  | _, _, .str x => .str x
  | _, _, .lst h t => .lst (seqL e h) (dpa_same e t)
  | _, _, .tup h t => .tup (seqT e h) (dpa_same e t)
theorem dpa_same {K : PySem.W.Frag} {H H' : Hp} (e : Same H H') : ∀ {vs : List V} {ds : List PyData}, DpAll K H vs ds → DpAll K H' vs ds
  | _, _, .nil => .nil
  | _, _, .cons h t => .cons (dp_same e h) (dpa_same e t)
end

/-! ### expressions -/
section
variable {K : PySem.W.Frag} {σ : L2.St} {H : Hp} {Q : VK} {ta tb te tc : TE} {v w x y : V} {p q l : Addr} {xs ys zs : List V} {i j : Int}
theorem g_var {n : Nat} (h : σ[n]? = some (some v)) (k : Q v H) : tVar n σ H Q := ⟨v, h, k⟩
theorem g_c (k : Q v H) : tC v σ H Q := k
theorem g_op {r : R2} (h : ta σ H fun x H1 => tb σ H1 fun y H2 => r x y H2 Q) : tOp r ta tb σ H Q := h
theorem g_un {r : V → Hp → VK → Prop} (h : ta σ H fun x H1 => r x H1 Q) : tUn r ta σ H Q := h
theorem g_I0 {g : Int → Int → V} (k : Q (g i j) H) : rI0 g (.int i) (.int j) H Q := ⟨i, j, rfl, rfl, k⟩
theorem g_I {C : Int → Int → Prop} {g : Int → Int → V} (c : C i j) (k : Q (g i j) H) : rI C g (.int i) (.int j) H Q := ⟨i, j, rfl, rfl, c, k⟩
theorem g_U {g : Int → V} (k : Q (g i) H) : rU g (.int i) H Q := ⟨i, rfl, k⟩

/-- a + b: ints, texts, lists -/
def rCatS : R2 := fun x y H Q => ∃ i j, x = .str i ∧ y = .str j ∧ i.length + j.length ≤ sizeLine ∧ Q (.str (i ++ j)) H
def rAddA : R2 := fun x y H Q => rI0 (fun i j => .int (i + j)) x y H Q ∨ rCatS x y H Q ∨ rCat x y H Q
theorem op_addA {X : Cx} : OpR X (binaryOp .Add) rAddA := op_add.or (op_add_str.or op_cat)
theorem g_addI (k : Q (.int (i + j)) H) : rAddA (.int i) (.int j) H Q := .inl ⟨i, j, rfl, rfl, k⟩
theorem g_addS {a b : Str} (h : a.length + b.length ≤ 100000) (k : Q (.str (a ++ b)) H) : rAddA (.str a) (.str b) H Q := .inr (.inl ⟨a, b, rfl, rfl, sz h, k⟩)
theorem g_addL (h1 : H p = some (.lst xs)) (h2 : H q = some (.lst ys)) (h : xs.length + ys.length ≤ 100000) (k : ∀ l H', H l = none → Same H H' → H' l = some (.lst (xs ++ ys)) → Q (.ref l) H') : rAddA (.ref p) (.ref q) H Q :=
  .inr (.inr ⟨p, q, xs, ys, rfl, rfl, h1, h2, sz h, fun l hl => k l _ hl (same_new hl) upd_same⟩)

/-- a[i]: lists, tuples, texts -/
theorem g_ixL (h : SqL K H p xs) (a : atI xs i = some v) (k : Q v H) : rIx K (.ref p) (.int i) H Q := .inl ⟨p, xs, i, v, rfl, rfl, h, a, k⟩
theorem g_ixT (h : SqT K H p xs) (a : atI xs i = some v) (k : Q v H) : rIx K (.ref p) (.int i) H Q := .inr (.inl ⟨p, xs, i, v, rfl, rfl, h, a, k⟩)
theorem g_ixS {z : Str} {c : Nat} (hz : z.length ≤ 100000) (a : atI z.cps.toList i = some c) (k : Q (.str ⟨#[c]⟩) H) : rIx K (.str z) (.int i) H Q := .inr (.inr ⟨z, i, c, rfl, rfl, sz hz, a, k⟩)

/-- a == b: scalars, data -/
def rEqA (K : PySem.W.Frag) : R2 := fun x y H Q => rEq x y H Q ∨ rEqD K x y H Q
def rNeA (K : PySem.W.Frag) : R2 := fun x y H Q => rNe x y H Q ∨ rNeD K x y H Q
theorem op_eqA {X : Cx} (hu : X.A.units + 64 < cLine) : OpR X (compareOp .Eq) (rEqA X.K) := op_eq.or (op_eqD hu)
theorem op_neA {X : Cx} (hu : X.A.units + 64 < cLine) : OpR X (compareOp .NotEq) (rNeA X.K) := op_ne.or (op_neD hu)
theorem dI {i j : Int} : decide (V.int i = V.int j) = decide (i = j) := by by_cases h : i = j <;> simp [h]
theorem dS {i j : Str} : decide (V.str i = V.str j) = decide (i = j) := by by_cases h : i = j <;> simp [h]
theorem dB {i j : Bool} : decide (V.bl i = V.bl j) = decide (i = j) := by by_cases h : i = j <;> simp [h]
theorem g_eqI (k : Q (.bl (decide (i = j))) H) : rEqA K (.int i) (.int j) H Q := .inl ⟨rfl, by rw [dI]; exact k⟩
theorem g_eqS {a b : Str} (k : Q (.bl (decide (a = b))) H) : rEqA K (.str a) (.str b) H Q := .inl ⟨rfl, by rw [dS]; exact k⟩
theorem g_eqB {a b : Bool} (k : Q (.bl (decide (a = b))) H) : rEqA K (.bl a) (.bl b) H Q := .inl ⟨rfl, by rw [dB]; exact k⟩
theorem g_eqV (s : scal v w = true) (k : Q (.bl (decide (v = w))) H) : rEqA K v w H Q := .inl ⟨s, k⟩
theorem g_eqD {d e : PyData} (h1 : Dp K H v d) (h2 : Dp K H w e) (s1 : SeqAt.shaped d = true) (s2 : SeqAt.shaped e = true) (k : Q (.bl (PyData.eqv d e)) H) : rEqA K v w H Q := .inr ⟨d, e, h1, h2, s1, s2, k⟩
theorem g_neI (k : Q (.bl (!decide (i = j))) H) : rNeA K (.int i) (.int j) H Q := .inl ⟨rfl, by rw [dI]; exact k⟩
theorem g_neS {a b : Str} (k : Q (.bl (!decide (a = b))) H) : rNeA K (.str a) (.str b) H Q := .inl ⟨rfl, by rw [dS]; exact k⟩
theorem g_neV (s : scal v w = true) (k : Q (.bl (!decide (v = w))) H) : rNeA K v w H Q := .inl ⟨s, k⟩
theorem g_neD {d e : PyData} (h1 : Dp K H v d) (h2 : Dp K H w e) (s1 : SeqAt.shaped d = true) (s2 : SeqAt.shaped e = true) (k : Q (.bl (!PyData.eqv d e)) H) : rNeA K v w H Q := .inr ⟨d, e, h1, h2, s1, s2, k⟩
/-- is None -/
def rIsN : R2 := fun x y H Q => y = .non ∧ Q (.bl (decide (x = .non))) H
def rNotN : R2 := fun x y H Q => y = .non ∧ Q (.bl (!decide (x = .non))) H
theorem op_isN' {X : Cx} : OpR X (compareOp .Is) rIsN := op_isN
theorem op_notN' {X : Cx} : OpR X (compareOp .IsNot) rNotN := op_notN
theorem g_isNN (k : Q (.bl true) H) : rIsN .non .non H Q := ⟨rfl, k⟩
theorem g_isNI (k : Q (.bl false) H) : rIsN (.int i) .non H Q := ⟨rfl, k⟩
theorem g_isNS {z : Str} (k : Q (.bl false) H) : rIsN (.str z) .non H Q := ⟨rfl, k⟩
theorem g_isNR (k : Q (.bl false) H) : rIsN (.ref p) .non H Q := ⟨rfl, k⟩
theorem g_isNV (k : Q (.bl (decide (v = .non))) H) : rIsN v .non H Q := ⟨rfl, k⟩
theorem g_notNN (k : Q (.bl false) H) : rNotN .non .non H Q := ⟨rfl, k⟩
theorem g_notNI (k : Q (.bl true) H) : rNotN (.int i) .non H Q := ⟨rfl, k⟩
theorem g_notNS {z : Str} (k : Q (.bl true) H) : rNotN (.str z) .non H Q := ⟨rfl, k⟩
theorem g_notNR (k : Q (.bl true) H) : rNotN (.ref p) .non H Q := ⟨rfl, k⟩
theorem g_notNV (k : Q (.bl (!decide (v = .non))) H) : rNotN v .non H Q := ⟨rfl, k⟩

/-! arguments, calls -/
theorem g_nil {Q : List V → Hp → Prop} (k : Q [] H) : tNil σ H Q := k
theorem g_cons {tr : TA} {Q : List V → Hp → Prop} (h : ta σ H fun x H1 => tr σ H1 fun xs H2 => Q (x :: xs) H2) : tCons ta tr σ H Q := h
theorem g_CB {r : List V → Hp → VK → Prop} {t : TA} (h : t σ H fun vs H1 => r vs H1 Q) : tCB r t σ H Q := h
def kCall (sp : Sp) (E : XK) (Q : VK) (vs : List V) (H : Hp) : Prop := sp vs H Q E
theorem g_call {sp : Sp} {E : XK} {t : TA} (h : t σ H (kCall sp E Q)) : tCall sp [] E t σ H Q := by
  show t σ H fun vs H1 => sp (vs ++ []) H1 Q E
  have e : (fun (vs : List V) (H1 : Hp) => sp (vs ++ []) H1 Q E) = kCall sp E Q := by
    funext vs H1
    show sp (vs ++ []) H1 Q E = sp vs H1 Q E
    rw [List.append_nil]
  rw [e]
  exact h
/-- len -/
def rLen (K : PySem.W.Frag) : List V → Hp → VK → Prop := fun xs H Q => ∃ x n, xs = [x] ∧ LenV K x H n ∧ Q (.int n) H
theorem call_lenA {X : Cx} : CallR X (.builtin "len") (rLen X.K) := call_len
theorem g_lenL (h : SqL K H p xs) (k : Q (.int (xs.length : Int)) H) : rLen K [.ref p] H Q := ⟨.ref p, xs.length, rfl, .inl ⟨xs, h, rfl⟩, k⟩
theorem g_lenT (h : SqT K H p xs) (k : Q (.int (xs.length : Int)) H) : rLen K [.ref p] H Q := ⟨.ref p, xs.length, rfl, .inr ⟨xs, h, rfl⟩, k⟩
theorem g_lenS {z : Str} (h : z.length ≤ 100000) (k : Q (.int (z.length : Int)) H) : rLen K [.str z] H Q := ⟨.str z, z.length, rfl, ⟨sz h, rfl⟩, k⟩
/-- list(xs), list(t) -/
def rListA (K : PySem.W.Frag) : List V → Hp → VK → Prop := fun xs H Q => ∃ p ys, xs = [.ref p] ∧ (SqL K H p ys ∨ SqT K H p ys) ∧ ∀ l, H l = none → Q (.ref l) (upd H l (.lst ys))
theorem call_listA {X : Cx} : CallR X (.type "list") (rListA X.K) := call_list_of
theorem g_list (h : SqL K H p xs) (k : ∀ l H', H l = none → Same H H' → H' l = some (.lst xs) → Q (.ref l) H') : rListA K [.ref p] H Q :=
  ⟨p, xs, rfl, .inl h, fun l hl => k l _ hl (same_new hl) upd_same⟩
/-- max, min of two -/
def rMax2 : List V → Hp → VK → Prop := fun xs H Q => ∃ i j, xs = [.int i, .int j] ∧ Q (.int (if j > i then j else i)) H
def rMin2 : List V → Hp → VK → Prop := fun xs H Q => ∃ i j, xs = [.int i, .int j] ∧ Q (.int (if j < i then j else i)) H
theorem call_max2' {X : Cx} (hc : X.calm = true) : CallR X (.builtin "max") rMax2 := call_max2 hc
theorem call_min2' {X : Cx} (hc : X.calm = true) : CallR X (.builtin "min") rMin2 := call_min2 hc
theorem g_max2 (k : Q (.int (max i j)) H) : rMax2 [.int i, .int j] H Q := ⟨i, j, rfl, by
  have e : (if j > i then j else i) = max i j := by
    by_cases h : j > i
    · rw [if_pos h]; omega
    · rw [if_neg h]; omega
  rw [e]; exact k⟩
theorem g_min2 (k : Q (.int (min i j)) H) : rMin2 [.int i, .int j] H Q := ⟨i, j, rfl, by
  have e : (if j < i then j else i) = min i j := by
    by_cases h : j < i
    · rw [if_pos h]; omega
    · rw [if_neg h]; omega
  rw [e]; exact k⟩
/-- displays -/
def kLst (Q : VK) (xs : List V) (H : Hp) : Prop := xs.length ≤ sizeLine ∧ ∀ p, H p = none → Q (.ref p) (upd H p (.lst xs))
def kTup (Q : VK) (xs : List V) (H : Hp) : Prop := xs.length ≤ sizeLine ∧ ∀ p, H p = none → Q (.ref p) (upd H p (.tup xs))
theorem g_lst {t : TA} (h : t σ H (kLst Q)) : tLst t σ H Q := h
theorem g_tup {t : TA} (h : t σ H (kTup Q)) : tTup t σ H Q := h
theorem g_kLst (h : xs.length ≤ 100000) (k : ∀ p H', H p = none → Same H H' → H' p = some (.lst xs) → Q (.ref p) H') : kLst Q xs H := ⟨sz h, fun p hp => k p _ hp (same_new hp) upd_same⟩
theorem g_kTup (h : xs.length ≤ 100000) (k : ∀ p H', H p = none → Same H H' → H' p = some (.tup xs) → Q (.ref p) H') : kTup Q xs H := ⟨sz h, fun p hp => k p _ hp (same_new hp) upd_same⟩
/-- slices -/
theorem g_sl {r : V → Option Int → Option Int → Hp → VK → Prop} {tl th : TO} (h : te σ H fun x H1 => tl σ H1 fun a H2 => th σ H2 fun b H3 => r x a b H3 Q) : tSl r te tl th σ H Q := h
theorem g_noPart {Q : Option Int → Hp → Prop} (k : Q none H) : tNoPart σ H Q := k
def kPart (Q : Option Int → Hp → Prop) (x : V) (H : Hp) : Prop := ∃ i, x = .int i ∧ Q (some i) H
theorem g_part {Q : Option Int → Hp → Prop} (h : te σ H (kPart Q)) : tPart te σ H Q := h
theorem g_kPart {Q : Option Int → Hp → Prop} (k : Q (some i) H) : kPart Q (.int i) H := ⟨i, rfl, k⟩
theorem g_slL {lo hi : Option Int} (h : SqL K H p xs) (k : ∀ l H', H l = none → Same H H' → H' l = some (.lst (cutV xs lo hi)) → Q (.ref l) H') : rSlL K (.ref p) lo hi H Q :=
  ⟨p, xs, rfl, h, fun l hl => k l _ hl (same_new hl) upd_same⟩
/-- tests as values and back -/
def kTest (Q : Bool → Hp → Prop) (x : V) (H : Hp) : Prop := ∃ k, x = .bl k ∧ Q k H
theorem g_test {Q : Bool → Hp → Prop} (h : te σ H (kTest Q)) : tTest te σ H Q := h
theorem g_tB {Q : Bool → Hp → Prop} (h : te σ H (kTest Q)) : tB te σ H Q := h
theorem g_kTest {Q : Bool → Hp → Prop} {b : Bool} (k : Q b H) : kTest Q (.bl b) H := ⟨b, rfl, k⟩
def kChain (r' : R2) (tc : TE) (σ : L2.St) (y : V) (Q : VK) (z : V) (H : Hp) : Prop := ∃ k, z = .bl k ∧ (if k = true then tc σ H fun w' H4 => r' y w' H4 Q else Q (.bl false) H)
/-- and, or, not, if .. else -/
def kAnd (u : TT) (σ : L2.St) (Q : Bool → Hp → Prop) (c : Bool) (H : Hp) : Prop := if c = true then u σ H Q else Q false H
def kOr (u : TT) (σ : L2.St) (Q : Bool → Hp → Prop) (c : Bool) (H : Hp) : Prop := if c = true then Q true H else u σ H Q
theorem g_and {t u : TT} {Q : Bool → Hp → Prop} (h : t σ H (kAnd u σ Q)) : tAnd t u σ H Q := h
theorem g_or {t u : TT} {Q : Bool → Hp → Prop} (h : t σ H (kOr u σ Q)) : tOr t u σ H Q := h
theorem g_not {t : TT} {Q : Bool → Hp → Prop} (h : t σ H fun c H1 => Q (!c) H1) : tNot t σ H Q := h
theorem g_kAnd {u : TT} {Q : Bool → Hp → Prop} {c : Bool} (h1 : c = true → u σ H Q) (h2 : c = false → Q false H) : kAnd u σ Q c H := by
  cases c with
  | true => exact h1 rfl
  | false => exact h2 rfl
theorem g_kOr {u : TT} {Q : Bool → Hp → Prop} {c : Bool} (h1 : c = true → Q true H) (h2 : c = false → u σ H Q) : kOr u σ Q c H := by
  cases c with
  | true => exact h1 rfl
  | false => exact h2 rfl
theorem g_kAndT {u : TT} {Q : Bool → Hp → Prop} {c : Bool} (hc : c = true) (h1 : u σ H Q) : kAnd u σ Q c H := by
  subst hc
  exact h1
theorem g_kAndF {u : TT} {Q : Bool → Hp → Prop} {c : Bool} (hc : c = false) (h1 : Q false H) : kAnd u σ Q c H := by
  subst hc
  exact h1
theorem g_kOrT {u : TT} {Q : Bool → Hp → Prop} {c : Bool} (hc : c = true) (h1 : Q true H) : kOr u σ Q c H := by
  subst hc
  exact h1
theorem g_kOrF {u : TT} {Q : Bool → Hp → Prop} {c : Bool} (hc : c = false) (h1 : u σ H Q) : kOr u σ Q c H := by
  subst hc
  exact h1
def kAndV (tb : TE) (σ : L2.St) (Q : VK) (x : V) (H : Hp) : Prop := ∃ c, x = .bl c ∧ if c = true then tb σ H Q else Q (.bl false) H
def kOrV (tb : TE) (σ : L2.St) (Q : VK) (x : V) (H : Hp) : Prop := ∃ c, x = .bl c ∧ if c = true then Q (.bl true) H else tb σ H Q
def kNotV (Q : VK) (x : V) (H : Hp) : Prop := ∃ c, x = .bl c ∧ Q (.bl (!c)) H
theorem g_andV (h : ta σ H (kAndV tb σ Q)) : tAndV ta tb σ H Q := h
theorem g_orV (h : ta σ H (kOrV tb σ Q)) : tOrV ta tb σ H Q := h
theorem g_notV (h : ta σ H (kNotV Q)) : tNotV ta σ H Q := h
theorem g_kAndV {c : Bool} (h1 : c = true → tb σ H Q) (h2 : c = false → Q (.bl false) H) : kAndV tb σ Q (.bl c) H := ⟨c, rfl, by
  cases c with
  | true => exact h1 rfl
  | false => exact h2 rfl⟩
theorem g_kOrV {c : Bool} (h1 : c = true → Q (.bl true) H) (h2 : c = false → tb σ H Q) : kOrV tb σ Q (.bl c) H := ⟨c, rfl, by
  cases c with
  | true => exact h1 rfl
  | false => exact h2 rfl⟩
/-- and, or with one end, told by d -/
theorem g_kAndVm {c : Bool} (d : Bool) (h1 : c = true → ∀ Q' : VK, (∀ H', Same H H' → Q' (.bl d) H') → tb σ H Q') (h2 : c = false → d = false) (k : ∀ H', Same H H' → Q (.bl d) H') : kAndV tb σ Q (.bl c) H :=
  g_kAndV (fun hc => h1 hc Q k) fun hc => by have q := k H (Same.refl H); rw [h2 hc] at q; exact q
theorem g_kOrVm {c : Bool} (d : Bool) (h1 : c = true → d = true) (h2 : c = false → ∀ Q' : VK, (∀ H', Same H H' → Q' (.bl d) H') → tb σ H Q') (k : ∀ H', Same H H' → Q (.bl d) H') : kOrV tb σ Q (.bl c) H :=
  g_kOrV (fun hc => by have q := k H (Same.refl H); rw [h1 hc] at q; exact q) fun hc => h2 hc Q k
theorem g_kAndm {u : TT} {Q : Bool → Hp → Prop} {c : Bool} (d : Bool) (h1 : c = true → ∀ Q' : Bool → Hp → Prop, (∀ H', Same H H' → Q' d H') → u σ H Q') (h2 : c = false → d = false) (k : ∀ H', Same H H' → Q d H') : kAnd u σ Q c H :=
  g_kAnd (fun hc => h1 hc Q k) fun hc => by have q := k H (Same.refl H); rw [h2 hc] at q; exact q
theorem g_kOrm {u : TT} {Q : Bool → Hp → Prop} {c : Bool} (d : Bool) (h1 : c = true → d = true) (h2 : c = false → ∀ Q' : Bool → Hp → Prop, (∀ H', Same H H' → Q' d H') → u σ H Q') (k : ∀ H', Same H H' → Q d H') : kOr u σ Q c H :=
  g_kOr (fun hc => by have q := k H (Same.refl H); rw [h1 hc] at q; exact q) fun hc => h2 hc Q k
theorem g_kNotV {c : Bool} (k : Q (.bl (!c)) H) : kNotV Q (.bl c) H := ⟨c, rfl, k⟩
def kIfE (ta tb : TE) (σ : L2.St) (Q : VK) (c : Bool) (H : Hp) : Prop := if c = true then ta σ H Q else tb σ H Q
theorem g_ifE {t : TT} (h : t σ H (kIfE ta tb σ Q)) : tIf t ta tb σ H Q := h
theorem g_kIfE {c : Bool} (h1 : c = true → ta σ H Q) (h2 : c = false → tb σ H Q) : kIfE ta tb σ Q c H := by
  cases c with
  | true => exact h1 rfl
  | false => exact h2 rfl
/-- fields -/
def kFld (K : PySem.W.Frag) (f : Str) (Q : VK) (x : V) (H : Hp) : Prop := ∃ a C dx fs v, x = .ref a ∧ H a = some (.ins C dx fs) ∧ Cls K C ∧ NoAttr K C f ∧ fs.lookup f = some v ∧ Q v H
theorem g_fld {f : Str} (h : ta σ H (kFld K f Q)) : tFld K ta f σ H Q := h
/-- isinstance -/
theorem call_isiA {X : Cx} : CallR X (.builtin "isinstance") (rIsi X.K) := call_isi
theorem g_isiI {n : String} {b : Bool} (h : kitB "int" n = some b) (k : Q (.bl b) H) : rIsi K [.int i, .ty n] H Q := ⟨_, _, _, _, b, rfl, .ty n, .base (.int i), kit_ty h, k⟩
theorem g_isiS {z : Str} {n : String} {b : Bool} (h : kitB "str" n = some b) (k : Q (.bl b) H) : rIsi K [.str z, .ty n] H Q := ⟨_, _, _, _, b, rfl, .ty n, .base (.str z), kit_ty h, k⟩
theorem g_isiB {z : Bool} {n : String} {b : Bool} (h : kitB "bool" n = some b) (k : Q (.bl b) H) : rIsi K [.bl z, .ty n] H Q := ⟨_, _, _, _, b, rfl, .ty n, .base (.bl z), kit_ty h, k⟩
theorem g_isiN {n : String} {b : Bool} (h : kitB "NoneType" n = some b) (k : Q (.bl b) H) : rIsi K [.non, .ty n] H Q := ⟨_, _, _, _, b, rfl, .ty n, .base .non, kit_ty h, k⟩
theorem g_isiL {n : String} {b : Bool} (e : H p = some (.lst xs)) (h : kitB "list" n = some b) (k : Q (.bl b) H) : rIsi K [.ref p, .ty n] H Q := ⟨_, _, _, _, b, rfl, .ty n, .base (.lst e), kit_ty h, k⟩
theorem g_isiT {n : String} {b : Bool} (e : H p = some (.tup xs)) (h : kitB "tuple" n = some b) (k : Q (.bl b) H) : rIsi K [.ref p, .ty n] H Q := ⟨_, _, _, _, b, rfl, .ty n, .base (.tup e), kit_ty h, k⟩
end

theorem k_ii : kitB "int" "int" = some true := by decide +kernel
theorem k_ib : kitB "int" "bool" = some false := by decide +kernel
theorem k_ss : kitB "str" "str" = some true := by decide +kernel
theorem k_ns : kitB "NoneType" "str" = some false := by decide +kernel
theorem k_ni : kitB "NoneType" "int" = some false := by decide +kernel
theorem k_bb : kitB "bool" "bool" = some true := by decide +kernel
theorem k_ll : kitB "list" "list" = some true := by decide +kernel
theorem k_tt : kitB "tuple" "tuple" = some true := by decide +kernel
theorem k_it : kitB "int" "tuple" = some false := by decide +kernel
theorem k_nt : kitB "NoneType" "tuple" = some false := by decide +kernel
theorem k_sb : kitB "str" "bool" = some false := by decide +kernel
theorem k_nb : kitB "NoneType" "bool" = some false := by decide +kernel
/-! ### statements -/
abbrev go (t : TS) (D : Ends) (σ : L2.St) (H : Hp) : Prop := t D σ H
section
variable {K : PySem.W.Frag} {σ : L2.St} {H : Hp} {t u tb : TS} {te ta : TE} {c : TT} {nx bk ct : L2.St → Hp → Prop} {rt : VK} {v : V} {p : Addr} {xs : List V}
theorem g_seq (h : t ⟨fun σ' H' => u ⟨nx, rt, bk, ct⟩ σ' H', rt, bk, ct⟩ σ H) : tSeq t u ⟨nx, rt, bk, ct⟩ σ H := h
theorem g_next (h : nx σ H) : tNext ⟨nx, rt, bk, ct⟩ σ H := h
theorem g_break (h : bk σ H) : tBreak ⟨nx, rt, bk, ct⟩ σ H := h
theorem g_cont (h : ct σ H) : tCont ⟨nx, rt, bk, ct⟩ σ H := h
theorem g_drop (h : te σ H fun _ H1 => nx σ H1) : tDrop te ⟨nx, rt, bk, ct⟩ σ H := h
theorem g_ret (h : te σ H rt) : tRet te ⟨nx, rt, bk, ct⟩ σ H := h
theorem g_retN (h : rt .non H) : tRetN ⟨nx, rt, bk, ct⟩ σ H := h
theorem g_asg {g : TG} (h : te σ H fun x H1 => g x σ H1 nx) : tAsg te g ⟨nx, rt, bk, ct⟩ σ H := h
theorem g_name {n : Nat} {N : L2.St → Hp → Prop} (h : N (σ.set n (some v)) H) : gName n v σ H N := h
def kIf (t u : TS) (D : Ends) (σ : L2.St) (c : Bool) (H : Hp) : Prop := if c = true then t D σ H else u D σ H
theorem g_if {D : Ends} (h : c σ H (kIf t u D σ)) : tIfS c t u D σ H := h
theorem g_kIfT {D : Ends} {b : Bool} (hb : b = true) (h : t D σ H) : kIf t u D σ b H := by
  subst hb
  exact h
theorem g_kIfF {D : Ends} {b : Bool} (hb : b = false) (h : u D σ H) : kIf t u D σ b H := by
  subst hb
  exact h
theorem g_kIf {D : Ends} {b : Bool} (h1 : b = true → t D σ H) (h2 : b = false → u D σ H) : kIf t u D σ b H := by
  cases b with
  | true => exact h1 rfl
  | false => exact h2 rfl
/-- xs.append(e) -/
def kApp (K : PySem.W.Frag) (te : TE) (σ : L2.St) (Q : VK) (x : V) (H : Hp) : Prop := tyV K "list" x H ∧ tCons te tNil σ H fun vs H2 => rAppend x vs H2 Q
theorem g_app {Q : VK} (h : ta σ H (kApp K te σ Q)) : tBM K "list" rAppend ta (tCons te tNil) σ H Q := h
def kApp2 (Q : VK) (p : Addr) (x : V) (H : Hp) : Prop := rAppend (.ref p) [x] H Q
theorem g_kApp {Q : VK} (h : H p = some (.lst xs)) (k : te σ H (kApp2 Q p)) : kApp K te σ Q (.ref p) H := ⟨.inl ⟨rfl, _, SqL.of h⟩, k⟩
theorem g_kApp2 {Q : VK} {x : V} (h : H p = some (.lst xs)) (hz : xs.length < 100000) (k : ∀ H', Mv H p H' → H' p = some (.lst (xs ++ [x])) → Q .non H') : kApp2 Q p x H :=
  ⟨p, xs, x, rfl, rfl, h, szl hz, k _ mv_upd upd_same⟩
/-- a[i] = v -/
theorem g_sub {to ti : TE} {t : TSet} {N : L2.St → Hp → Prop} (h : to σ H fun o H1 => ti σ H1 fun i H2 => t o i v H2 fun H3 => N σ H3) : gSub to ti t v σ H N := h
theorem g_setL {k : Int} {j : Nat} {N : Hp → Prop} (h : H p = some (.lst xs)) (hj : ixN xs.length k = some j) (q : ∀ H', Mv H p H' → H' p = some (.lst (xs.set j v)) → N H') : rSetL (.ref p) (.int k) v H N :=
  ⟨p, xs, k, j, rfl, rfl, h, hj, q _ mv_upd upd_same⟩
theorem ixN_nat {n j : Nat} {k : Int} (e : k = (j : Int)) (h : j < n) : ixN n k = some j := by
  subst e
  unfold ixN
  rw [if_pos (Int.natCast_nonneg j), if_pos (by omega)]
  rfl
/-- loops -/
def kForL (K : PySem.W.Frag) (g : TG) (tb : TS) (D : Ends) (σ : L2.St) (x : V) (H : Hp) : Prop := ∃ a, x = .ref a ∧ (∃ xs, SqL K H a xs) ∧ ∃ W : Nat → Nat → L2.St → Hp → Prop, (∃ m, W 0 m σ H) ∧ ∀ i m σ H, W i m σ H →
  ((Itl K a).stop i H ∧ D.nx σ H) ∨ ((Itl K a).go i H ∧ ∃ N : L2.St → Hp → Prop, (∀ σ' H', N σ' H' → ∃ m', m' < m ∧ W (i + 1) m' σ' H') ∧ ∀ x H', (Itl K a).yld i H x H' → g x σ H' fun σ2 H2 => tb { D with nx := N, ct := N, bk := D.nx } σ2 H2)
theorem g_forL {D : Ends} {g : TG} (h : te σ H (kForL K g tb D σ)) : tFor (iList K te) g tb D σ H := h
theorem g_kForL {g : TG} (hx : SqL K H p xs) (Pv : Nat → L2.St → Hp → Prop) (h0 : Pv 0 σ H) (hl : ∀ i σ' H', Pv i σ' H' → SqL K H' p xs)
    (hs : ∀ i x σ' H', xs[i]? = some x → Pv i σ' H' → g x σ' H' fun σ2 H2 => tb ⟨Pv (i + 1), rt, nx, Pv (i + 1)⟩ σ2 H2) (hd : ∀ σ' H', Pv xs.length σ' H' → nx σ' H') : kForL K g tb ⟨nx, rt, bk, ct⟩ σ (.ref p) H :=
  ⟨p, rfl, ⟨xs, hx⟩, for_list (K := K) (a := p) (xs := xs) (D := ⟨nx, rt, bk, ct⟩) Pv h0 (fun i σ' H' _ q => hl i σ' H' q) hs hd⟩
def kForR (g : TG) (tb : TS) (D : Ends) (σ : L2.St) (vs : List V) (H : Hp) : Prop := ∃ j : Int, vs = [.int j] ∧ -(2 ^ 62) ≤ j ∧ j < 2 ^ 62 ∧ ∃ W : Nat → Nat → L2.St → Hp → Prop, (∃ m, W 0 m σ H) ∧ ∀ i m σ H, W i m σ H →
  ((Itr 0 j.toNat).stop i H ∧ D.nx σ H) ∨ ((Itr 0 j.toNat).go i H ∧ ∃ N : L2.St → Hp → Prop, (∀ σ' H', N σ' H' → ∃ m', m' < m ∧ W (i + 1) m' σ' H') ∧ ∀ x H', (Itr 0 j.toNat).yld i H x H' → g x σ H' fun σ2 H2 => tb { D with nx := N, ct := N, bk := D.nx } σ2 H2)
theorem g_forR {D : Ends} {ta : TA} {g : TG} (h : ta σ H (kForR g tb D σ)) : tFor (iRng1 ta) g tb D σ H := h
theorem g_kForR {g : TG} {n : Nat} {j : Int} (hj : j = (n : Int)) (hn : n ≤ 1000000) (Pv : Nat → L2.St → Hp → Prop) (h0 : Pv 0 σ H)
    (hs : ∀ (i : Nat) σ' H', i < n → Pv i σ' H' → g (.int (i : Int)) σ' H' fun σ2 H2 => tb ⟨Pv (i + 1), rt, nx, Pv (i + 1)⟩ σ2 H2) (hd : ∀ σ' H', Pv n σ' H' → nx σ' H') : kForR g tb ⟨nx, rt, bk, ct⟩ σ [.int j] H := by
  subst hj
  refine ⟨(n : Int), rfl, by omega, by omega, ?_⟩
  rw [show ((n : Int)).toNat = n from rfl]
  refine for_range (lo := 0) (n := n) (D := ⟨nx, rt, bk, ct⟩) Pv h0 (fun i σ' H' hi q => ?_) hd
  rw [Int.zero_add]
  exact hs i σ' H' hi q
end

/-! ### new lines -/
section
variable {K : PySem.W.Frag}
theorem at_nat {α : Type} {xs : List α} {z : Int} {j : Nat} {v : α} (e : z = (j : Int)) (h : xs[j]? = some v) : atI xs z = some v := by
  rw [e]
  exact atI_nat h
end
/-! ### comprehensions -/
section
variable {K : PySem.W.Frag} {σ : L2.St} {H : Hp} {Q : VK} {te tl : TE} {tt : TT} {g : TG} {vs : List Nat} {p : Addr} {xs : List V} {j : Nat}
/-- B bears what is new between A and A' -/
def Nu (A A' B : Hp) : Prop := ∀ b o, A b = none → A' b = some o → B b = some o
def kLc (J : It) (g : TG) (tt : TT) (te : TE) (vs : List Nat) (σ : L2.St) (Q : VK) (H1 : Hp) : Prop := ∀ D, H1 D = none → ∃ W : Nat → Nat → Hp → Prop, (∃ m, W 0 m (upd H1 D (.lst []))) ∧ ∀ i m H, W i m H →
  (J.stop i H ∧ Q (.ref D) H) ∨ (J.go i H ∧ ∃ Nx : Hp → Prop, (∀ H', Nx H' → ∃ m', m' < m ∧ W (i + 1) m' H') ∧ ∀ x H', J.yld i H x H' → g x (wipe σ vs) H' fun σ2 H2 => wipe σ2 vs = wipe σ vs ∧ tt σ2 H2 fun b H3 =>
    if b = true then te σ2 H3 fun y H4 => ∃ acc, H4 D = some (.lst acc) ∧ acc.length < sizeLine ∧ Nx (upd H4 D (.lst (acc ++ [y]))) else Nx H3)
def kLcR (g : TG) (tt : TT) (te : TE) (vs : List Nat) (σ : L2.St) (Q : VK) (as : List V) (H : Hp) : Prop := ∃ z : Int, as = [.int z] ∧ -(2 ^ 62) ≤ z ∧ z < 2 ^ 62 ∧ kLc (Itr 0 z.toNat) g tt te vs σ Q H
theorem g_lcR {ta : TA} (h : ta σ H (kLcR g tt te vs σ Q)) : tLc (iRng1 ta) g tt te vs σ H Q := h
def kLcL (K : PySem.W.Frag) (g : TG) (tt : TT) (te : TE) (vs : List Nat) (σ : L2.St) (Q : VK) (x : V) (H : Hp) : Prop := ∃ a, x = .ref a ∧ (∃ xs, SqL K H a xs) ∧ kLc (Itl K a) g tt te vs σ Q H
theorem g_lcL (h : tl σ H (kLcL K g tt te vs σ Q)) : tLc (iList K tl) g tt te vs σ H Q := h
/-- over a range, all kept; what each is: el -/
theorem g_kLcR {z : Int} {n : Nat} (hz : z = (n : Int)) (hn : n ≤ 50000) (el : Nat → V → Hp → Prop) (hw : ∀ x, wipe ((wipe σ vs).set j (some x)) vs = wipe σ vs)
    (he : ∀ i H' (Q' : VK), i < n → Same H H' → (∀ v H'', Same H' H'' → (∀ B, Nu H' H'' B → Same H B → el i v B) → Q' v H'') → te ((wipe σ vs).set j (some (.int (i : Int)))) H' Q')
    (k : ∀ q H' ys, H q = none → Same H H' → H' q = some (.lst ys) → ys.length = n → (∀ (i : Nat) v, ys[i]? = some v → el i v H') → Q (.ref q) H') : kLcR (gName j) tYes te vs σ Q [.int z] H := by
  subst hz
  refine ⟨(n : Int), rfl, by omega, by omega, fun D hD => ?_⟩
  rw [show ((n : Int)).toNat = n from rfl]
  refine lc_range (lo := 0) (n := n) (fun i H' => Same H H' ∧ ∃ ys, H' D = some (.lst ys) ∧ ys.length = i ∧ ∀ k v, ys[k]? = some v → ∀ B, (∀ b o, b ≠ D → H' b = some o → B b = some o) → Same H B → el k v B)
    ⟨same_new hD, [], upd_same, rfl, fun k v h => by simp at h⟩ (fun i H' hi hP => ?_) (fun H' hP => ?_)
  · obtain ⟨s, ys, e, l, a⟩ := hP
    rw [Int.zero_add]
    show wipe ((wipe σ vs).set j (some (.int (i : Int)))) vs = wipe σ vs ∧ te ((wipe σ vs).set j (some (.int (i : Int)))) H' _
    refine ⟨hw _, he i H' _ hi s fun v H'' s2 hv => ⟨ys, s2 _ _ e, szl (by omega), Same.mutd (Same.via s s2) mv_upd hD, ys ++ [v], upd_same, by rw [List.length_append, List.length_singleton, l], fun k u hk B hB sB => ?_⟩⟩
    by_cases hkl : k < ys.length
    · rw [List.getElem?_append_left hkl] at hk
      exact a k u hk B (fun b o hb h => hB b o hb (by rw [upd_ne hb]; exact s2 _ _ h)) sB
    · have hk2 : k = i := by
        have := (List.getElem?_eq_some_iff.mp hk).1
        rw [List.length_append, List.length_singleton] at this
        omega
      subst hk2
      rw [List.getElem?_append_right (by omega), l, Nat.sub_self] at hk
      have eu : v = u := Option.some.inj hk
      subst eu
      refine hv B (fun b o hn ho => hB b o (fun z => by rw [z, e] at hn; cases hn) ?_) sB
      rw [upd_ne (fun z => by rw [z, e] at hn; cases hn)]
      exact ho
  · obtain ⟨s, ys, e, l, a⟩ := hP
    exact k D H' ys hD s e l fun i v h => a i v h H' (fun _ _ _ h => h) s
/-- over a list, all kept -/
theorem g_kLcL (hx : SqL K H p xs) (hn : xs.length ≤ 50000) (el : Nat → V → Hp → Prop) (hw : ∀ x, wipe ((wipe σ vs).set j (some x)) vs = wipe σ vs)
    (he : ∀ (i : Nat) (x : V) H' (Q' : VK), xs[i]? = some x → Same H H' → (∀ v H'', Same H' H'' → (∀ B, Nu H' H'' B → Same H B → el i v B) → Q' v H'') → te ((wipe σ vs).set j (some x)) H' Q')
    (k : ∀ q H' ys, H q = none → Same H H' → H' q = some (.lst ys) → ys.length = xs.length → (∀ (i : Nat) v, ys[i]? = some v → el i v H') → Q (.ref q) H') : kLcL K (gName j) tYes te vs σ Q (.ref p) H := by
  refine ⟨p, rfl, ⟨xs, hx⟩, fun D hD => ?_⟩
  refine lc_list (K := K) (a := p) (xs := xs) (fun i H' => Same H H' ∧ ∃ ys, H' D = some (.lst ys) ∧ ys.length = i ∧ ∀ k v, ys[k]? = some v → ∀ B, (∀ b o, b ≠ D → H' b = some o → B b = some o) → Same H B → el k v B)
    ⟨same_new hD, [], upd_same, rfl, fun k v h => by simp at h⟩ (fun i H' _ hP => seqL hP.1 hx) (fun i x H' hi hP => ?_) (fun H' hP => ?_)
  · obtain ⟨s, ys, e, l, a⟩ := hP
    have hil := (List.getElem?_eq_some_iff.mp hi).1
    show wipe ((wipe σ vs).set j (some x)) vs = wipe σ vs ∧ te ((wipe σ vs).set j (some x)) H' _
    refine ⟨hw _, he i x H' _ hi s fun v H'' s2 hv => ⟨ys, s2 _ _ e, szl (by omega), Same.mutd (Same.via s s2) mv_upd hD, ys ++ [v], upd_same, by rw [List.length_append, List.length_singleton, l], fun k u hk B hB sB => ?_⟩⟩
    by_cases hkl : k < ys.length
    · rw [List.getElem?_append_left hkl] at hk
      exact a k u hk B (fun b o hb h => hB b o hb (by rw [upd_ne hb]; exact s2 _ _ h)) sB
    · have hk2 : k = i := by
        have := (List.getElem?_eq_some_iff.mp hk).1
        rw [List.length_append, List.length_singleton] at this
        omega
      subst hk2
      rw [List.getElem?_append_right (by omega), l, Nat.sub_self] at hk
      have eu : v = u := Option.some.inj hk
      subst eu
      refine hv B (fun b o hn ho => hB b o (fun z => by rw [z, e] at hn; cases hn) ?_) sB
      rw [upd_ne (fun z => by rw [z, e] at hn; cases hn)]
      exact ho
  · obtain ⟨s, ys, e, l, a⟩ := hP
    exact k D H' ys hD s e l fun i v h => a i v h H' (fun _ _ _ h => h) s
theorem map_ext_get {α β : Type} {xs : List α} {ys : List β} {f : α → β} (hl : ys.length = xs.length) (h : ∀ (i : Nat) (y : β), ys[i]? = some y → ∃ x, xs[i]? = some x ∧ y = f x) : ys = xs.map f := by
  refine List.ext_getElem? fun i => ?_
  rw [List.getElem?_map]
  cases e : ys[i]? with
  | none =>
    rw [List.getElem?_eq_none (by have := List.getElem?_eq_none_iff.mp e; omega)] <;> rfl
  | some y =>
    obtain ⟨x, h1, h2⟩ := h i y e
    rw [h1, h2] <;> rfl
/-- over a list, values told by the item alone -/
theorem g_kLcLV (f : V → V) (hx : SqL K H p xs) (hn : xs.length ≤ 50000) (hw : ∀ x, wipe ((wipe σ vs).set j (some x)) vs = wipe σ vs)
    (he : ∀ (i : Nat) (x : V) H' (Q' : VK), xs[i]? = some x → Same H H' → (∀ H'', Same H' H'' → Q' (f x) H'') → te ((wipe σ vs).set j (some x)) H' Q')
    (k : ∀ q H', H q = none → Same H H' → H' q = some (.lst (xs.map f)) → Q (.ref q) H') : kLcL K (gName j) tYes te vs σ Q (.ref p) H :=
  g_kLcL hx hn (fun i v _ => ∃ x, xs[i]? = some x ∧ v = f x) hw (fun i x H' Q' hi s q => he i x H' Q' hi s fun H'' s2 => q _ _ s2 fun _ _ _ => ⟨x, hi, rfl⟩)
    fun q H' ys h1 h2 h3 h4 h5 => k q H' h1 h2 (by rw [← map_ext_get h4 h5]; exact h3)
theorem g_kLcRV {z : Int} {n : Nat} (f : Nat → V) (hz : z = (n : Int)) (hn : n ≤ 50000) (hw : ∀ x, wipe ((wipe σ vs).set j (some x)) vs = wipe σ vs)
    (he : ∀ i H' (Q' : VK), i < n → Same H H' → (∀ H'', Same H' H'' → Q' (f i) H'') → te ((wipe σ vs).set j (some (.int (i : Int)))) H' Q')
    (k : ∀ q H', H q = none → Same H H' → H' q = some (.lst ((List.range n).map f)) → Q (.ref q) H') : kLcR (gName j) tYes te vs σ Q [.int z] H :=
  g_kLcR hz hn (fun i v _ => v = f i) hw (fun i H' Q' hi s q => he i H' Q' hi s fun H'' s2 => q _ _ s2 fun _ _ _ => rfl)
    fun q H' ys h1 h2 h3 h4 h5 => k q H' h1 h2 (by
      rw [← map_ext_get (xs := List.range n) (by rw [List.length_range]; exact h4) fun i y e => ⟨i, by
        have hi := (List.getElem?_eq_some_iff.mp e).1
        rw [List.getElem?_eq_getElem (by rw [List.length_range]; omega), List.getElem_range], h5 i y e⟩]
      exact h3)
/-- over a list, some kept: values and tests told by the item alone -/
theorem g_kLcLF (b : V → Bool) (f : V → V) (hx : SqL K H p xs) (hn : xs.length ≤ 50000) (hw : ∀ x, wipe ((wipe σ vs).set j (some x)) vs = wipe σ vs)
    (ht : ∀ (i : Nat) (x : V) H' (Q' : Bool → Hp → Prop), xs[i]? = some x → Same H H' → (∀ H'', Same H' H'' → Q' (b x) H'') → tt ((wipe σ vs).set j (some x)) H' Q')
    (he : ∀ (i : Nat) (x : V) H' (Q' : VK), xs[i]? = some x → b x = true → Same H H' → (∀ H'', Same H' H'' → Q' (f x) H'') → te ((wipe σ vs).set j (some x)) H' Q')
    (k : ∀ q H', H q = none → Same H H' → H' q = some (.lst ((xs.filter b).map f)) → Q (.ref q) H') : kLcL K (gName j) tt te vs σ Q (.ref p) H := by
  refine ⟨p, rfl, ⟨xs, hx⟩, fun D hD => ?_⟩
  refine lc_list (K := K) (a := p) (xs := xs) (fun i H' => Same H H' ∧ H' D = some (.lst (((xs.take i).filter b).map f)))
    ⟨same_new hD, by rw [List.take_zero]; exact upd_same⟩ (fun i H' _ hP => seqL hP.1 hx) (fun i x H' hi hP => ?_) (fun H' hP => ?_)
  · obtain ⟨s, e⟩ := hP
    have hil := (List.getElem?_eq_some_iff.mp hi).1
    have ht1 : xs.take (i + 1) = xs.take i ++ [x] := by rw [List.take_add_one, hi] <;> rfl
    show wipe ((wipe σ vs).set j (some x)) vs = wipe σ vs ∧ tt ((wipe σ vs).set j (some x)) H' _
    refine ⟨hw _, ht i x H' _ hi s fun H2 s2 => ?_⟩
    cases hb : b x with
    | true =>
      refine he i x H2 _ hi hb (Same.via s s2) fun H3 s3 => ⟨_, s3 _ _ (s2 _ _ e), szl ?_, Same.mutd (Same.via s (Same.via s2 s3)) mv_upd hD, ?_⟩
      · rw [List.length_map]
        have := List.length_filter_le b (xs.take i)
        rw [List.length_take] at this
        omega
      · rw [upd_same, ht1, List.filter_append, List.map_append, List.filter_cons, if_pos hb] <;> rfl
    | false =>
      show Same H H2 ∧ H2 D = some (.lst (((xs.take (i + 1)).filter b).map f))
      refine ⟨Same.via s s2, ?_⟩
      rw [ht1, List.filter_append, List.map_append, List.filter_cons, if_neg (by rw [hb]; exact Bool.false_ne_true), List.filter_nil, List.map_nil, List.append_nil]
      exact s2 _ _ e
  · obtain ⟨s, e⟩ := hP
    rw [List.take_length] at e
    exact k D H' hD s e
end
end Wk
/-! defs as they stand, their promises, their calls -/
namespace Wk
open PySem PySem.Spec PyProof.Rows L2
/-- the def x of the top -/
def DefAt (K : PySem.W.Frag) (mg : Str → Option Value) (x : Str) (st : Stmt) : Prop := ∃ f fd, Fun K x x st f fd ∧ mg x = some (.ref f)
/-- a method (or __init__) at f -/
def MetAt (K : PySem.W.Frag) (x qual : Str) (st : Stmt) (f : Addr) : Prop := ∃ fd, Fun K x qual st f fd
/-- a def that keeps its promise, ready for a call -/
def Rd (P : Program) (w : World) (K : PySem.W.Frag) (mg : Str → Option Value) (base : Heap) (CX : CXT) (k : Nat) (x : Str) (ps : List Str) (sp : Sp) : Prop :=
  ∃ f fd, FnOk P w K mg base CX k f fd ps sp ∧ mg x = some (.ref f) ∧ PySem.W.keepIn K (.ref f) = true ∧ Binds K fd ps []
/-- a method that keeps its promise -/
def Rm (P : Program) (w : World) (K : PySem.W.Frag) (mg : Str → Option Value) (base : Heap) (CX : CXT) (k : Nat) (f : Addr) (ps : List Str) (sp : Sp) : Prop :=
  ∃ fd, FnOk P w K mg base CX k f fd ps sp ∧ Binds K fd ps []
section
variable {P : Program} {w : World} {K : PySem.W.Frag} {mg : Str → Option Value} {base : Heap}
abbrev HB (x qual : Str) (st : Stmt) (ps : List Str) : Prop := ∀ (kV doc pm : Value) (an : Option Addr) (cdv ct : Value) (us : List Value), us.length = ps.length → bindArgs (PySem.W.fnOf x qual (defArgs st) (defBody st) (defScope st) .none kV doc pm an cdv ct) ⟨us, []⟩ = pure (ps.zip us)
theorem DefAt.ok {x : Str} {st : Stmt} {N ps : List Str} {k : Nat} {sp : Sp} (D : DefAt K mg x st) (S : FnScope N ps (defScope st)) (hb : HB x x st ps) (len : ∀ vs H Q E, sp vs H Q E → vs.length = ps.length)
    (body : ∀ (f : Addr) (cdv : Value) (A : Around) (outer : List Env) (s : Shared) (H : Hp) (vs : List V) (Q : VK) (E : XK), Room k (A.deeper (envOfC x (defScope st) s.heap.objs.size f cdv)) → sp vs H Q E →
      ∃ t, PSs (cxOf CX0 P w K mg base N x (defScope st) f cdv A outer s H E).nox (defBody st) t ∧ t ⟨fun _ H' => Q .non H', Q, fun _ _ => False, fun _ _ => False⟩ (start N vs) H) : Rd P w K mg base CX0 (k + 1) x ps sp := by
  obtain ⟨f, fd, F, g⟩ := D
  exact ⟨f, fd, F.ok S len fun cdv A outer s H vs Q E hr h => body f cdv A outer s H vs Q E hr h, g, F.kp, F.binds hb⟩
theorem DefAt.okX {x : Str} {st : Stmt} {N ps : List Str} {k : Nat} {sp : Sp} (D : DefAt K mg x st) (S : FnScope N ps (defScope st)) (hb : HB x x st ps) (len : ∀ vs H Q E, sp vs H Q E → vs.length = ps.length)
    (body : ∀ (f : Addr) (cdv : Value) (A : Around) (outer : List Env) (s : Shared) (H : Hp) (vs : List V) (Q : VK) (E : XK), Room k (A.deeper (envOfC x (defScope st) s.heap.objs.size f cdv)) → sp vs H Q E →
      ∃ t, PSs (cxOf (L2.CX P w) P w K mg base N x (defScope st) f cdv A outer s H E) (defBody st) t ∧ t ⟨fun _ H' => Q .non H', Q, fun _ _ => False, fun _ _ => False⟩ (start N vs) H) : Rd P w K mg base (L2.CX P w) (k + 1) x ps sp := by
  obtain ⟨f, fd, F, g⟩ := D
  exact ⟨f, fd, F.okX S len fun cdv A outer s H vs Q E hr h => body f cdv A outer s H vs Q E hr h, g, F.kp, F.binds hb⟩
theorem MetAt.ok {x qual : Str} {st : Stmt} {f : Addr} {N ps : List Str} {k : Nat} {sp : Sp} (D : MetAt K x qual st f) (S : FnScope N ps (defScope st)) (hb : HB x qual st ps) (len : ∀ vs H Q E, sp vs H Q E → vs.length = ps.length)
    (body : ∀ (cdv : Value) (A : Around) (outer : List Env) (s : Shared) (H : Hp) (vs : List V) (Q : VK) (E : XK), Room k (A.deeper (envOfC qual (defScope st) s.heap.objs.size f cdv)) → sp vs H Q E →
      ∃ t, PSs (cxOf CX0 P w K mg base N qual (defScope st) f cdv A outer s H E).nox (defBody st) t ∧ t ⟨fun _ H' => Q .non H', Q, fun _ _ => False, fun _ _ => False⟩ (start N vs) H) : Rm P w K mg base CX0 (k + 1) f ps sp := by
  obtain ⟨fd, F⟩ := D
  exact ⟨fd, F.ok S len fun cdv A outer s H vs Q E hr h => body cdv A outer s H vs Q E hr h, F.binds hb⟩
theorem MetAt.okX {x qual : Str} {st : Stmt} {f : Addr} {N ps : List Str} {k : Nat} {sp : Sp} (D : MetAt K x qual st f) (S : FnScope N ps (defScope st)) (hb : HB x qual st ps) (len : ∀ vs H Q E, sp vs H Q E → vs.length = ps.length)
    (body : ∀ (cdv : Value) (A : Around) (outer : List Env) (s : Shared) (H : Hp) (vs : List V) (Q : VK) (E : XK), Room k (A.deeper (envOfC qual (defScope st) s.heap.objs.size f cdv)) → sp vs H Q E →
      ∃ t, PSs (cxOf (L2.CX P w) P w K mg base N qual (defScope st) f cdv A outer s H E) (defBody st) t ∧ t ⟨fun _ H' => Q .non H', Q, fun _ _ => False, fun _ _ => False⟩ (start N vs) H) : Rm P w K mg base (L2.CX P w) (k + 1) f ps sp := by
  obtain ⟨fd, F⟩ := D
  exact ⟨fd, F.okX S len fun cdv A outer s H vs Q E hr h => body cdv A outer s H vs Q E hr h, F.binds hb⟩
/-- the law itself -/
theorem fun_ok {x : Str} {st : Stmt} {f : Addr} {fd : FuncData} {N ps : List Str} {k : Nat} {sp : Sp} (F : Fun K x x st f fd) (S : FnScope N ps (defScope st)) (len : ∀ vs H Q E, sp vs H Q E → vs.length = ps.length)
    (body : ∀ (cdv : Value) (A : Around) (outer : List Env) (s : Shared) (H : Hp) (vs : List V) (Q : VK) (E : XK), Room k (A.deeper (envOfC x (defScope st) s.heap.objs.size f cdv)) → sp vs H Q E →
      ∃ t, PSs (cxOf CX0 P w K mg base N x (defScope st) f cdv A outer s H E).nox (defBody st) t ∧ t ⟨fun _ H' => Q .non H', Q, fun _ _ => False, fun _ _ => False⟩ (start N vs) H) : FnOk P w K mg base CX0 (k + 1) f fd ps sp :=
  F.ok S len fun cdv A outer s H vs Q E hr h => body cdv A outer s H vs Q E hr h
/-- a promise weakened -/
theorem Rd.imp {CX : CXT} {k : Nat} {x : Str} {ps : List Str} {sp sp' : Sp} (R : Rd P w K mg base CX k x ps sp) (h : ∀ vs H Q E, sp' vs H Q E → sp vs H Q E) : Rd P w K mg base CX k x ps sp' := by
  obtain ⟨f, fd, F, g, kp, b⟩ := R
  exact ⟨f, fd, F.imp h, g, kp, b⟩
/-- what the top leaves of a def -/
theorem defAt_mk {x : Str} {st : Stmt} {h : Heap} (X : K.In h) (G : h.Ns mainGlobals mg) {f : Addr} {oc : Value} {od an : Option Addr} {osl : Array (Option Value)} {kV doc pm cdv ct : Value}
    (a : PySem.W.nsIn K mainGlobals x = some (some (.ref f))) (l : K.lookup f = some ⟨oc, od, .func (PySem.W.fnOf x x (defArgs st) (defBody st) (defScope st) .none kV doc pm an cdv ct), osl⟩)
    (c : PySem.W.codeIn K cdv x = true) (k : PySem.W.keepIn K (.ref f) = true) : DefAt K mg x st := ⟨f, _, fun_mk l c k, PySem.W.mg_of X G a⟩
theorem metAt_mk {x qual : Str} {st : Stmt} {f : Addr} {oc : Value} {od an : Option Addr} {osl : Array (Option Value)} {kV doc pm cdv ct : Value}
    (l : K.lookup f = some ⟨oc, od, .func (PySem.W.fnOf x qual (defArgs st) (defBody st) (defScope st) .none kV doc pm an cdv ct), osl⟩)
    (c : PySem.W.codeIn K cdv qual = true) (k : PySem.W.keepIn K (.ref f) = true) : MetAt K x qual st f := ⟨_, fun_mk l c k⟩
end
section
variable {X : Cx} {CX : CXT} {k : Nat} {f C : Addr} {ps : List Str} {sp : Sp} {E : XK} {x m : Str} {p pos apos : Pos} {e o : Expr} {es : List Expr} {ta : TE} {t : TA}
theorem pe_callR (R : Rd X.prog X.w X.K X.mg X.base CX k x ps sp) (hr : Room k X.A) (hg : Gl X x) (hx : Passes CX X E) (ha : PA X (e :: es) t) (hdb : (x == ("__debug__" : Str)) = false := by decide)
    (he : starEach (e :: es) X.env = (false, eval e X.env) :: starEach es X.env := by rfl) (hpl : (backTo pos (starEach es X.env)).any (·.1) = false := by rfl) :
    PE X (.Call (.Name x p) (e :: es) [] pos) (tCall sp [] E t) := by
  obtain ⟨f, fd, F, g, kp, b⟩ := R
  exact pe_call F hr hg g kp b .nil hx ha hdb he hpl
theorem pe_callR0 (R : Rd X.prog X.w X.K X.mg X.base CX k x ps sp) (hr : Room k X.A) (hg : Gl X x) (hx : Passes CX X E) (hdb : (x == ("__debug__" : Str)) = false := by decide) : PE X (.Call (.Name x p) [] [] pos) (tCall sp [] E tNil) := by
  obtain ⟨f, fd, F, g, kp, b⟩ := R
  exact pe_call0 F hr hg g kp b .nil hx hdb
theorem pe_makeR (M : Mk X.K C f) (R : Rm X.prog X.w X.K X.mg X.base CX k f ps sp) (hr : Room (k + 1) X.A) (hg : Gl X x) (hm : X.mg x = some (.ref C)) (hx : Passes CX X E) (ha : PA X (e :: es) t) (hdb : (x == ("__debug__" : Str)) = false := by decide)
    (he : starEach (e :: es) X.env = (false, eval e X.env) :: starEach es X.env := by rfl) (hpl : (backTo pos (starEach es X.env)).any (·.1) = false := by rfl) :
    PE X (.Call (.Name x p) (e :: es) [] pos) (tMake C sp [] E t) := by
  obtain ⟨fd, F, b⟩ := R
  exact pe_make M F hr hg hm b .nil hx ha hdb he hpl
end

section
variable {CX : CXT} {P : Program} {w : World} {K : PySem.W.Frag} {mg : Str → Option Value} {base : Heap} {N : List Str} {qual : Str} {scope : Scope} {f : Addr} {cd : Value} {A : Around} {outer : List Env} {s : Shared} {H : Hp} {E : XK}
theorem cxK : (cxOf CX P w K mg base N qual scope f cd A outer s H E).K = K := rfl
theorem cxKn : (cxOf CX P w K mg base N qual scope f cd A outer s H E).nox.K = K := rfl
theorem cxW : (cxOf CX P w K mg base N qual scope f cd A outer s H E).w = w := rfl
theorem cxWn : (cxOf CX P w K mg base N qual scope f cd A outer s H E).nox.w = w := rfl
theorem cxP : (cxOf CX P w K mg base N qual scope f cd A outer s H E).prog = P := rfl
theorem cxPn : (cxOf CX P w K mg base N qual scope f cd A outer s H E).nox.prog = P := rfl
end
/-- the law's end -/
theorem law_end {l : PySem.W.OpenLaw} {w : World} {K : PySem.W.Frag} {h : Heap} {mg : Str → Option Value} {fa f : Addr} {k : Nat} {sp : Sp} {st : Stmt} (X : K.In h) (G : h.Ns mainGlobals mg) (hfa : mg "law" = some (.ref fa))
    {oc : Value} {od an : Option Addr} {osl : Array (Option Value)} {kV doc pm cdv ct : Value}
    (main : ∀ (base : Heap) (fd : FuncData), Fun K "law" "law" st f fd → FnOk l.prog w K mg base CX0 k f fd ["script"] sp)
    (hb : ∀ (s : Shared) (v : Value), BindsTo s (PySem.W.fnOf "law" "law" (defArgs st) (defBody st) (defScope st) .none kV doc pm an cdv ct) ⟨[v], []⟩ [("script", v)])
    (a : PySem.W.nsIn K mainGlobals "law" = some (some (.ref f))) (lk : K.lookup f = some ⟨oc, od, .func (PySem.W.fnOf "law" "law" (defArgs st) (defBody st) (defScope st) .none kV doc pm an cdv ct), osl⟩)
    (c : PySem.W.codeIn K cdv "law" = true) (kp : PySem.W.keepIn K (.ref f) = true) :
    ∃ fd : FuncData, (∀ (s : Shared) (v : Value), BindsTo s fd ⟨[v], []⟩ [("script", v)]) ∧ ∀ base : Heap, K.In base → base.Ns mainGlobals mg → FnOk l.prog w K mg base CX0 k fa fd ["script"] sp := by
  have e := hfa.symm.trans (PySem.W.mg_of X G a)
  cases e
  exact ⟨_, hb, fun base _ _ => main base _ (fun_mk lk c kp)⟩
/-! ### built-ins' names -/
structure Bt (mg : Str → Option Value) : Prop where
  len : mg "len" = none
  range : mg "range" = none
  list : mg "list" = none
  set : mg "set" = none
  sorted : mg "sorted" = none
  isinstance : mg "isinstance" = none
  int : mg "int" = none
  str : mg "str" = none
  bool : mg "bool" = none
  tuple : mg "tuple" = none
  max : mg "max" = none
  min : mg "min" = none
  sum : mg "sum" = none
  all : mg "all" = none
  reversed : mg "reversed" = none
  dict : mg "dict" = none
  ValueError : mg "ValueError" = none

/-! ### the class of lines -/
structure LineC (K : PySem.W.Frag) (mg : Str → Option Value) (C f : Addr) : Prop where
  cl : Cls K C
  nC : NoAttr K C "cuts"
  nH : NoAttr K C "holds"
  mgC : mg "Line" = some (.ref C)
  made : Mk K C f
  ha : PySem.W.findIn K (.ref C) "__class__" = some (some (.builtin "object.__class__"))
  hn : PySem.W.specialIn K (.builtin "object.__class__") "__get__" = some (some (.builtin "getset_descriptor.__get__"))
  htk : PySem.W.takesIn K (.builtin "object.__class__") = some true
  hm : PySem.W.mroIn K C (.type "object") = some true
  ki : PySem.W.kitOne K (.ref C) (.ref C) = some true
theorem line_mk {K : PySem.W.Frag} {mg : Str → Option Value} {h : Heap} {st : Stmt} (X : K.In h) (G : h.Ns mainGlobals mg) {C f : Addr} {oc : Value} {od an : Option Addr} {osl : Array (Option Value)} {kV doc pm cdv ct : Value}
    (aC : PySem.W.nsIn K mainGlobals "Line" = some (some (.ref C)))
    (i1 : PySem.W.findIn K (.ref C) "__init__" = some (some (.ref f))) (f1 : PySem.W.isFn K (.ref f) = true) (l1 : K.lookup f = some ⟨oc, od, .func (PySem.W.fnOf "__init__" "Line.__init__" (defArgs st) (defBody st) (defScope st) .none kV doc pm an cdv ct), osl⟩)
    (c1 : PySem.W.codeIn K cdv "Line.__init__" = true) (k1 : PySem.W.keepIn K (.ref f) = true) (pg : PySem.W.plainGet K C Str.empty = true) (hd : PySem.W.hasDictIn K C = true) (po : PySem.W.plainOver K C = true)
    (sa : PySem.W.findIn K (.ref C) "__setattr__" = some (some (.builtin "object.__setattr__"))) (nC : PySem.W.findIn K (.ref C) "cuts" = some none) (nH : PySem.W.findIn K (.ref C) "holds" = some none) (mk : PySem.W.makesIn K C = true) (kC : PySem.W.keepIn K (.ref C) = true)
    (ha : PySem.W.findIn K (.ref C) "__class__" = some (some (.builtin "object.__class__"))) (hn : PySem.W.specialIn K (.builtin "object.__class__") "__get__" = some (some (.builtin "getset_descriptor.__get__")))
    (htk : PySem.W.takesIn K (.builtin "object.__class__") = some true) (hm : PySem.W.mroIn K C (.type "object") = some true) :
    ∃ C f, LineC K mg C f ∧ MetAt K "__init__" "Line.__init__" st f := ⟨C, f, ⟨⟨pg, hd, po, sa⟩, nC, nH, PySem.W.mg_of X G aC, ⟨mk, i1, f1, kC⟩, ha, hn, htk, hm, if_pos (beq_self_eq_true _)⟩, metAt_mk l1 c1 k1⟩
abbrev LineEx {K : PySem.W.Frag} {h : Heap} (_ : K.In h) (mg : Str → Option Value) (st : Stmt) : Prop := ∃ C f, LineC K mg C f ∧ MetAt K "__init__" "Line.__init__" st f
abbrev DefEx {K : PySem.W.Frag} {h : Heap} (_ : K.In h) (mg : Str → Option Value) (x : Str) (st : Stmt) : Prop := DefAt K mg x st
def lineFs (lc lh : Addr) : List (Str × V) := [("cuts", .ref lc), ("holds", .ref lh)]
theorem ch_ : ¬ (("cuts" : Str) = "holds") := by decide +kernel
theorem hc_ : ¬ (("holds" : Str) = "cuts") := by decide +kernel
theorem lf_cuts (lc lh : Addr) : (lineFs lc lh).lookup ("cuts" : Str) = some (.ref lc) := by
  unfold lineFs
  rw [List.lookup_cons]
  have e : (("cuts" : Str) == ("cuts" : Str)) = true := by decide +kernel
  rw [e]
theorem lf_holds (lc lh : Addr) : (lineFs lc lh).lookup ("holds" : Str) = some (.ref lh) := by
  unfold lineFs
  rw [List.lookup_cons]
  have e : (("holds" : Str) == ("cuts" : Str)) = false := by decide +kernel
  rw [e, List.lookup_cons]
  have e2 : (("holds" : Str) == ("holds" : Str)) = true := by decide +kernel
  rw [e2]
theorem lf_put (lc lh : Addr) : putF "holds" (.ref lh) (putF "cuts" (.ref lc) []) = lineFs lc lh := by
  show (if ("cuts" : Str) = "holds" then _ else (("cuts" : Str), V.ref lc) :: putF "holds" (V.ref lh) []) = lineFs lc lh
  rw [if_neg ch_] <;> rfl
/-- a line stands at p: its cuts, its holds (lists of its own) -/
def LineAt (C : Addr) (H : Hp) (p : Addr) (cs : List Int) (hs : List V) : Prop :=
  ∃ dx lc lh, H p = some (.ins C dx (lineFs lc lh)) ∧ H lc = some (.lst (cs.map V.int)) ∧ H lh = some (.lst hs)
theorem LineAt.same {C : Addr} {H H' : Hp} {p : Addr} {cs : List Int} {hs : List V} (s : Same H H') (h : LineAt C H p cs hs) : LineAt C H' p cs hs := by
  obtain ⟨dx, lc, lh, a, b, c⟩ := h
  exact ⟨dx, lc, lh, s _ _ a, s _ _ b, s _ _ c⟩
/-- C(..), two arguments -/
def kMake (C : Addr) (sp : Sp) (E : XK) (Q : VK) (vs : List V) (H : Hp) : Prop := ∀ x dx, H x = none → H dx = none → dx ≠ x → sp (.ref x :: (vs ++ [])) (upd (upd H dx (.own x)) x (.ins C dx [])) (fun v H2 => v = .non ∧ Q (.ref x) H2) E
theorem g_make {C : Addr} {sp : Sp} {E : XK} {t : TA} {σ : L2.St} {H : Hp} {Q : VK} (h : t σ H (kMake C sp E Q)) : tMake C sp [] E t σ H Q := h
section
variable {K : PySem.W.Frag} {mg : Str → Option Value} {C f : Addr} {H : Hp} {Q : VK} {p : Addr} {cs : List Int} {hs : List V}
theorem g_cuts (L : LineC K mg C f) (h : LineAt C H p cs hs) (k : ∀ lc, H lc = some (.lst (cs.map V.int)) → Q (.ref lc) H) : kFld K "cuts" Q (.ref p) H := by
  obtain ⟨dx, lc, lh, a, b, c⟩ := h
  exact ⟨p, C, dx, _, _, rfl, a, L.cl, L.nC, lf_cuts lc lh, k lc b⟩
theorem g_holds (L : LineC K mg C f) (h : LineAt C H p cs hs) (k : ∀ lh, H lh = some (.lst hs) → Q (.ref lh) H) : kFld K "holds" Q (.ref p) H := by
  obtain ⟨dx, lc, lh, a, b, c⟩ := h
  exact ⟨p, C, dx, _, _, rfl, a, L.cl, L.nH, lf_holds lc lh, k lh c⟩
theorem g_isiC (L : LineC K mg C f) (h : LineAt C H p cs hs) (k : Q (.bl true) H) : rIsi K [.ref p, .ref C] H Q := by
  obtain ⟨dx, lc, lh, a, b, c⟩ := h
  exact ⟨_, _, _, _, true, rfl, .own C, .base (.ins a L.cl L.ha L.hn L.htk L.hm), L.ki, k⟩
end
end Wk
/-! set(xs) of a list of ints of any length, sorted of it; other rules that the layer has not -/
namespace Wk
open PySem PySem.Spec PyProof.Rows L2
section
variable {P : Program} {w : World} {A : Around} {E : Value → Shared → Prop} {s : Shared}
/-- a set as it is made -/
abbrev newSet (w : World) : Obj := { cls := .type "set", dict := none, data := .set #[] 0 (.fresh 0 0 (!w.params.followText "set-order")) }
set_option maxHeartbeats 4000000 in
theorem set_of_list {l : Addr} {items : Array Value} (ns : List Int) {Q : Value → Shared → Prop} (hh : A.handled = none) (hl : s.heap.IsList l items) (hit : IntsAre items.toList ns) (hb : ns.length + 1 < scanBound)
    (h : ∀ (h' : Heap) (tk c : Nat), SetR w h' s.heap.objs.size (fun j => decide (j ∈ ns)) c → c ≤ ns.length → (∀ b o, s.heap.get? b = some o → h'.get? b = some o) → Q (.ref s.heap.objs.size) { s with heap := h', toks := tk }) :
    wpAny (model P w) A (call (.type "set") [.ref l]) Q E s := by
  have hisz : items.size = ns.length := by have q := IntsAre.length hit; rw [Array.length_toList] at q; exact q
  obtain ⟨c, tl, hmro⟩ := F.called_set.mro; have hmade := F.called_set.made; have hsub := F.called_set.sub
  refine wpAny_call (codeAny_of_tree ?_); show wpAny _ _ (callAny (.type "set") _) _ _ _
  refine wpAny_pure ⟨Code.quiet_builtin _ (by decide +kernel), codeAny_builtin F.entry_type_call ?_⟩; rw [Around.under_plain (weight_type_call_type "set" [.ref l] []) rfl]
  have h1 := F.called_set.notType; have h2 := F.called_set.canCreate; have hct := F.typeCall_set_1 (.ref l)
  repeat (any_goals (first | assumption | wp_step))
  refine codeAny_mono (code_set_led1 (.ref l) (E := E) (Q₁ := fun obj s1 => obj = .ref s.heap.objs.size ∧ s1 = { s with heap := s.heap.push (newSet w) }) ⟨rfl, rfl⟩) fun r s1 hr => ?_
  cases r with
  | error e => exact hr
  | ok fl =>
    cases fl with
    | ret obj =>
      obtain ⟨rfl, rfl⟩ := hr
      have hS : (s.heap.push (newSet w)).get? s.heap.objs.size = some (newSet w) := Heap.get?_push_size _ rfl
      have hT : Shared.TypeIs { s with heap := s.heap.push (newSet w) } (.ref s.heap.objs.size) "set" := ⟨_, hS, rfl⟩
      have hli := F.called_set.init.lookup; have hbi := F.called_set.init.bind (.ref s.heap.objs.size)
      repeat (any_goals (first | assumption | wp_step))
      refine codeAny_mono (codeAny_call_builtin (R := wants (fun r s2 => r = .none ∧ ∃ h' tk c, s2 = { s with heap := h', toks := tk } ∧ SetR w h' s.heap.objs.size (fun j => decide (j ∈ ns)) c ∧ c ≤ ns.length ∧
          (∀ b o, s.heap.get? b = some o → h'.get? b = some o)) E) F.called_set.init.plain F.entry_set_init (check_set_init_1 hT ?_)) fun r2 s2 hr2 => ?_
      · obtain ⟨ol, hol, hcl, nl, hdl⟩ := hl
        obtain ⟨ocls, odict, odata, oslots⟩ := ol
        simp only at hcl hdl; subst hcl; subst hdl
        have hol' : (s.heap.push (newSet w)).get? l = some { cls := .type "list", dict := odict, data := .seq items nl, slots := oslots } := Heap.get?_push_of_some _ hol
        have hsls := F.sub_list_set; have hslf := F.sub_list_frozenset
        have hne : (Value.type "list" == Value.type "dict") = false := by decide
        have hl1 : (s.heap.push (newSet w)).IsList l items := ⟨_, hol', rfl, nl, rfl⟩
        unfold Builtin.«set.__init__» noKeywords Builtin.Frozenset.updateFrom; generalize hPI : pyIter = PI
        wp_walk
        subst hPI
        refine wpAny_pyIter_list hl1 ?_; refine wpAny_bind (wpAny_runValue ?_)
        have hlS : l < s.heap.objs.size := Heap.lt_size hol
        have hh3 : A.in1.in1.in1.handled = none := by simp [hh]
        have hz1 : (s.heap.push (newSet w)).objs.size = s.heap.objs.size + 1 := Heap.size_push ..
        have hneI : l ≠ (s.heap.push (newSet w)).objs.size := by rw [hz1]; exact Nat.ne_of_lt (Nat.lt_succ_of_lt hlS)
        have hSf : s.heap.objs.size ∉ [(s.heap.push (newSet w)).objs.size, l] := by
          rw [hz1]; simp only [List.mem_cons, List.not_mem_nil, or_false, not_or]; exact ⟨Nat.ne_of_lt (Nat.lt_succ_self _), Nat.ne_of_gt hlS⟩
        have hval : ∀ (i : Nat) (v : Value), items[i]? = some v → ∃ k t, ns[i]? = some k ∧ v = .int k t := fun i v hv => by
          have hi : i < ns.length := by rw [← hisz]; exact (Array.getElem?_eq_some_iff.mp hv).1
          obtain ⟨t, e⟩ := PyProof.Rows.IntsAre.int_at hit i v (by rw [Array.getElem?_toList]; exact hv)
          refine ⟨ns[i], t, List.getElem?_eq_getElem hi, ?_⟩; rw [e, List.getD_eq_getElem?_getD, List.getElem?_eq_getElem hi] <;> rfl
        refine set_update_ints ((Walks.list hh3 _ l hneI items).toS) s.heap.objs.size hSf ns hisz hb hval (items.size - 0) 0 _ (by omega) (Nat.zero_le _) ⟨⟨_, Heap.get?_push_size _ rfl, rfl, rfl⟩, (hl1.push _)⟩ ?hS0 ?hR
        case hS0 => exact ⟨0, Nat.le_refl 0, setR_new_at (Heap.get?_push_of_some _ hS)⟩
        case hR =>
          intro s' c' hm hc' hS'
          obtain ⟨h', g2, d', tk', os'⟩ := s'
          have eg : g2 = s.gens := hm.gens
          have ed : d' = s.drawn := hm.drawn
          have eo : os' = s.os := hm.os
          subst eg; subst ed; subst eo
          show wpAny _ _ _ _ _ _
          refine wpAny_pure ?_; show wpAny _ _ (ret Value.none) _ _ _
          rw [hisz] at hc'; refine wpAny_pure ⟨rfl, h', tk', c', rfl, hS', hc', fun b o e => ?_⟩
          have hb0 : b < s.heap.objs.size := Heap.lt_size e
          refine hm.heap b o ?_ (Heap.get?_push_of_some _ (Heap.get?_push_of_some _ e)); rw [hz1]
          simp only [List.mem_cons, List.not_mem_nil, or_false, not_or]; exact ⟨Nat.ne_of_lt hb0, Nat.ne_of_lt (Nat.lt_succ_of_lt hb0)⟩
      · cases r2 with
        | error e => exact hr2
        | ok fl2 =>
          cases fl2 with
          | ret r =>
            obtain ⟨rfl, h', tk, c', rfl, hS', hc', hk'⟩ := hr2
            repeat (any_goals (first | assumption | wp_step))
            exact h _ _ _ hS' hc' hk'
          | _ => exact hr2.elim
    | _ => exact hr.elim
/-- sorted of a set of ints, of any size -/
theorem sorted_set_any {a : Addr} {S : Int → Bool} {n : Nat} {Q : Value → Shared → Prop} (R : SetR w s.heap a S n) (hh : A.handled = none)
    (hQ : ∀ s' p (out : Array Value) (c : Nat) (ns : List Int), (∀ b o, s.heap.get? b = some o → s'.heap.get? b = some o) → s'.gens = s.gens → s'.os = s.os → s.heap.objs.size ≤ p →
      s'.heap.get? p = some (seqObj "list" out c) → IntsAre out.toList ns → ns.Pairwise (· < ·) → (∀ k, k ∈ ns ↔ S k = true) → ns.length = n → Q (.ref p) s') :
    wpAny (model P w) A (call (.builtin "sorted") [.ref a]) Q E s := by
  obtain ⟨o, es, ep, t, ho, hex, hd, g, nd, hm, hb, hf, hn, hr, hl⟩ := R
  have hsz := fits_of_scanBound hb
  refine Calls.call_function_entry kind_sorted plain_sorted entry_sorted (args_sorted1 _) ?_; unfold Builtin.«sorted»
  refine wpAny_bind (m := checkCount "sorted" 1 1 _) (wpAny_pure ?_)
  refine wpAny_bind (collect_set (A := A.in1) hh ⟨o, ho, hex.1, hd⟩ hf hb hr hl fun s1 vs k1 hz g1 o1 pm => ?_)
  have hvl : vs.length = n := by rw [pm.length_eq, List.length_map, Array.length_toList]; exact hn
  have hns : n ≤ sizeLine := by rw [← hn]; exact hsz
  have hI : IntsAre vs (vs.map Builtin.Re.reRawOf) := ints_of vs fun v hv => by
    obtain ⟨e, he, q⟩ := List.mem_map.mp (pm.mem_iff.mp hv); obtain ⟨k, tk, h1, _⟩ := g e he
    exact ⟨k, tk, by rw [← q]; exact h1⟩
  have pk : (vs.map Builtin.Re.reRawOf).Perm (es.toList.map keyOf) := by have q := pm.map Builtin.Re.reRawOf; rw [List.map_map] at q; exact q
  refine wpAny_bind (wpAny_newList ?_ (by rw [hvl]; exact hns))
  have hoL : (s1.heap.push (seqObj "list" vs.toArray 0)).get? s1.heap.objs.size = some (seqObj "list" vs.toArray 0) := Heap.get?_push_size _ rfl
  refine wpAny_bind (wpAny_holding (wpAny_call_entry slot_list_sort ⟨_, hoL, rfl⟩ entry_list_sort (list_sort_treeAny hoL hI (by rw [hvl]; exact hns) fun out ns' a1 a2 a3 => ⟨_, rfl, ?_⟩) (args_list_sort _)))
  obtain ⟨c, hc⟩ := sortedHeap_at (vs := vs) (out := out) hoL; have pn : ns'.Perm (es.toList.map keyOf) := a2.trans pk
  refine wpAny_pure ⟨_, rfl, hQ _ s1.heap.objs.size out c ns' (fun b u e => ?_) g1 o1 hz hc a1 (lt_of_le_nodup ns' a3 (pn.nodup_iff.mpr nd)) (fun k => by rw [pn.mem_iff, ← hm k]) ?_⟩
  · have q := k1 b u e; have hlt := Heap.lt_size q
    show (sortedHeap (s1.heap.push (seqObj "list" vs.toArray 0)) s1.heap.objs.size vs out).get? b = some u
    rw [sortedHeap_old (Nat.ne_of_lt hlt) (by rw [size_push']; exact Nat.lt_succ_of_lt hlt)]; exact Heap.get?_push_of_some _ q
  · rw [pn.length_eq, List.length_map, Array.length_toList]; exact hn
end
section
variable {X : Cx}
/-- set(xs), xs a list of ints -/
def rSetA (K : PySem.W.Frag) (w : World) : List V → Hp → VK → Prop := fun vs H Q => ∃ (l : Addr) (ns : List Int), vs = [V.ref l] ∧ SqL K H l (ns.map V.int) ∧ ns.length ≤ 1000 ∧
  ∀ p c, H p = none → c ≤ ns.length → Q (.ref p) (upd H p (SetO w p (fun j => decide (j ∈ ns)) c))
theorem call_setA (hc : X.calm = true) : CallR X (.type "set") (rSetA X.K X.w) := by
  intro pins s σ H vs us Q I r h
  obtain ⟨l, ns, rfl, hl, hz, q⟩ := h
  obtain ⟨its, rv, pl, _⟩ := I.list hl
  rw [Vals.ref1 r]
  refine set_of_list ns (I.ok.hd hc) pl.isList (by simpa using rv.ints) (by unfold scanBound; omega) fun h' tk c R hcl k => ?_
  exact ⟨.ref s.heap.objs.size, upd H s.heap.objs.size (SetO X.w s.heap.objs.size (fun j => decide (j ∈ ns)) c), I.laid (t' := tk) k (Nat.le_refl _) (setO_new R), rfl, q _ c (I.hok.fresh (Nat.le_refl _)) hcl⟩
/-- sorted(s): a set of ints; a list of ints -/
def rSortedS (w : World) : List V → Hp → VK → Prop := fun vs H Q => ∃ (a : Addr) (S : Int → Bool) (n : Nat), vs = [V.ref a] ∧ H a = some (SetO w a S n) ∧ n ≤ 1000 ∧
  ∀ (ns : List Int) (p : Addr), ns.Pairwise (· < ·) → (∀ k : Int, k ∈ ns ↔ S k = true) → ns.length = n → H p = none → Q (.ref p) (upd H p (.lst (ns.map V.int)))
theorem cr_sortedS' (hc : X.calm = true) : CallR X (.builtin "sorted") (rSortedS X.w) := by
  intro pins s σ H vs us Q I r h
  obtain ⟨a, S, n, rfl, ha, h64, q⟩ := h
  have R := setO_get I ha
  rw [Vals.ref1 r]
  refine sorted_set_any R (I.ok.hd hc) fun s' p out c ns k g o hp hg hi hs hm hl => ?_
  have hlen : (ns.map V.int).length ≤ sizeLine := by rw [List.length_map, hl, sizeLine_eq]; omega
  have hn : H p = none := I.hok.fresh hp
  have J : Inv X pins σ (upd H p (.lst (ns.map V.int))) { s with heap := s'.heap, gens := s'.gens, drawn := s'.drawn, toks := s'.toks } :=
    I.call (ch := []) (Un.laid k hp hn) (I.hok.laid k hp ⟨hlen, out.toList, c, vals_of_ints hi, hg⟩) (by rw [g]; exact I.bare) (fun _ z => nomatch z)
  have e : s' = { s with heap := s'.heap, gens := s'.gens, drawn := s'.drawn, toks := s'.toks } := by cases s'; cases s; cases o; rfl
  rw [e]
  exact ⟨.ref p, _, J, rfl, q ns p hs hm hl hn⟩
def rSortedA (K : PySem.W.Frag) (w : World) : List V → Hp → VK → Prop := fun vs H Q => rSortedS w vs H Q ∨ rSortedI K vs H Q
theorem call_sortedA (hc : X.calm = true) : CallR X (.builtin "sorted") (rSortedA X.K X.w) := (cr_sortedS' hc).or cr_sortedI
end
section
variable {K : PySem.W.Frag} {w : World} {H : Hp} {Q : VK} {p : Addr} {ns : List Int}
theorem g_set (h : SqL K H p (ns.map V.int)) (hz : ns.length ≤ 1000) (k : ∀ q c H', H q = none → Same H H' → H' q = some (SetO w q (fun j => decide (j ∈ ns)) c) → c ≤ ns.length → Q (.ref q) H') : rSetA K w [.ref p] H Q :=
  ⟨p, ns, rfl, h, hz, fun q c hq hc => k q c _ hq (same_new hq) upd_same hc⟩
theorem g_sortedS {S : Int → Bool} {n : Nat} (h : H p = some (SetO w p S n)) (hz : n ≤ 1000) (k : ∀ (es : List Int) q H', es.Pairwise (· < ·) → (∀ k : Int, k ∈ es ↔ S k = true) → es.length = n → H q = none → Same H H' → H' q = some (.lst (es.map V.int)) → Q (.ref q) H') : rSortedA K w [.ref p] H Q :=
  .inl ⟨p, S, n, rfl, h, hz, fun es q h1 h2 h3 h4 => k es q _ h1 h2 h3 h4 (same_new h4) upd_same⟩
/-- sorted(set(xs)) at once: from the set on -/
theorem g_sortedset {c : Nat} (h : H p = some (SetO w p (fun j => decide (j ∈ ns)) c)) (hc : c ≤ ns.length) (hz : ns.length ≤ 1000) (k : ∀ (es : List Int) q H', es.Pairwise (· < ·) → (∀ k : Int, k ∈ es ↔ k ∈ ns) → es.length ≤ ns.length → H q = none → Same H H' → H' q = some (.lst (es.map V.int)) → Q (.ref q) H') : rSortedA K w [.ref p] H Q :=
  g_sortedS h (by omega) fun es q H' h1 h2 h3 h4 h5 h6 => k es q H' h1 (fun k => by rw [h2 k]; exact decide_eq_true_iff) (by omega) h4 h5 h6
theorem g_sortedI (h : SqL K H p (ns.map V.int)) (k : ∀ (es : List Int) q H', es.Perm ns → es.Pairwise (· ≤ ·) → H q = none → Same H H' → H' q = some (.lst (es.map V.int)) → Q (.ref q) H') : rSortedA K w [.ref p] H Q :=
  .inr ⟨p, ns, rfl, h, fun es q h1 h2 h3 => k es q _ h1 h2 h3 (same_new h3) upd_same⟩
/-- is True -/
theorem g_isB {a b : Bool} (k : Q (.bl (decide (a = b))) H) : rIsB (.bl a) (.bl b) H Q := ⟨a, b, rfl, rfl, k⟩
theorem g_notB {a b : Bool} (k : Q (.bl (!decide (a = b))) H) : rNotB (.bl a) (.bl b) H Q := ⟨a, b, rfl, rfl, k⟩
/-- sep.join(xs) -/
def rJoinA (K : PySem.W.Frag) : V → List V → Hp → VK → Prop := fun x xs H Q => ∃ a p, ∃ ys : List Str, x = .str a ∧ xs = [.ref p] ∧ (SqL K H p (ys.map V.str) ∨ SqT K H p (ys.map V.str)) ∧
  (ys.map (·.length)).sum + ys.length * a.length ≤ 16777216 ∧ Q (.str (Txt.join a ys)) H
/-- a text's method of one argument -/
def kM1 (r : V → List V → Hp → VK → Prop) (te : TE) (σ : L2.St) (Q : VK) (x : V) (H : Hp) : Prop := (∃ a, x = .str a) ∧ te σ H fun y H2 => r x [y] H2 Q
theorem g_m1 {r : V → List V → Hp → VK → Prop} {to te : TE} {σ : L2.St} (h : to σ H (kM1 r te σ Q)) : tM1 r to te σ H Q := h
theorem g_kM1 {r : V → List V → Hp → VK → Prop} {te : TE} {σ : L2.St} {a : Str} (h : te σ H fun y H2 => r (.str a) [y] H2 Q) : kM1 r te σ Q (.str a) H := ⟨⟨a, rfl⟩, h⟩
theorem g_join {a : Str} {ys : List Str} (h : SqL K H p (ys.map V.str)) (hz : (ys.map (·.length)).sum + ys.length * a.length ≤ 16777216) (k : Q (.str (Txt.join a ys)) H) : rJoinA K (.str a) [.ref p] H Q :=
  ⟨a, p, ys, rfl, rfl, .inl h, hz, k⟩
end
section
variable {X : Cx} {o e : Expr} {to te : TE} {apos pos : Pos}
theorem pe_joinA (ho : PE X o to) (he : PE X e te) (hs : starEach [e] X.env = [(false, eval e X.env)] := by rfl) (hbase : attributeBase o "join" X.env (eval o X.env) = eval o X.env := by rfl) (hline : (apos.endLine == pos.line) = true := by rfl) :
    PE X (.Call (.Attribute o "join" apos) [e] [] pos) (tM1 (rJoinA X.K) to te) := pe_join ho he hs hbase hline
end
end Wk
/-! more walking rules -/
namespace Wk
open PySem PySem.Spec PyProof.Rows L2
/-! readings in a comprehension's block: what stands fixed is told by the def's own K -/
section
variable {X : Cx} {K : PySem.W.Frag} {e : Expr} {ta : TE} {f : Str} {pos : Pos}
theorem ix_seqK (h : X.K = K) : IxR X (rIx K) := h ▸ ix_seq
theorem op_eqK (h : X.K = K) (hu : X.A.units + 64 < cLine) : OpR X (compareOp .Eq) (rEqA K) := h ▸ op_eqA hu
theorem op_neK (h : X.K = K) (hu : X.A.units + 64 < cLine) : OpR X (compareOp .NotEq) (rNeA K) := h ▸ op_neA hu
theorem sl_listK (h : X.K = K) : SlR X (rSlL K) := h ▸ sl_list
theorem call_lenK (h : X.K = K) : CallR X (.builtin "len") (rLen K) := h ▸ call_lenA
theorem call_listK (h : X.K = K) : CallR X (.type "list") (rListA K) := h ▸ call_listA
theorem call_isiK (h : X.K = K) : CallR X (.builtin "isinstance") (rIsi K) := h ▸ call_isiA
theorem pe_fldK (h : X.K = K) (he : PE X e ta) (hb : attributeBase e f X.env (eval e X.env) = eval e X.env) : PE X (.Attribute e f pos) (tFld K ta f) := h ▸ pe_fld he hb
end
section
variable {K : PySem.W.Frag} {σ : L2.St} {H : Hp} {Q : VK} {te tl ta : TE} {tt : TT} {vs : List Nat} {p q : Addr} {xs ys : List V} {j : Nat} {ns : List Int}
/-- xs.extend(e) -/
def kExt2 (Q : VK) (p : Addr) (x : V) (H : Hp) : Prop := rExtend (.ref p) [x] H Q
def kExt (K : PySem.W.Frag) (te : TE) (σ : L2.St) (Q : VK) (x : V) (H : Hp) : Prop := tyV K "list" x H ∧ tCons te tNil σ H fun vs H2 => rExtend x vs H2 Q
theorem g_ext (h : ta σ H (kExt K te σ Q)) : tBM K "list" rExtend ta (tCons te tNil) σ H Q := h
theorem g_kExt (h : H p = some (.lst xs)) (k : te σ H (kExt2 Q p)) : kExt K te σ Q (.ref p) H := ⟨.inl ⟨rfl, _, SqL.of h⟩, k⟩
theorem g_kExt2 (h : H p = some (.lst xs)) (h2 : H q = some (.lst ys)) (hz : xs.length + ys.length ≤ 100000) (k : ∀ H', Mv H p H' → H' p = some (.lst (xs ++ ys)) → Q .non H') : kExt2 Q p (.ref q) H :=
  ⟨p, q, xs, ys, rfl, rfl, h, h2, sz hz, k _ mv_upd upd_same⟩
/-- over a list of ints -/
theorem g_kLcLI (h : Int → Int) (hx : SqL K H p (ns.map V.int)) (hn : ns.length ≤ 50000) (hw : ∀ x, wipe ((wipe σ vs).set j (some x)) vs = wipe σ vs)
    (he : ∀ (i : Nat) (c : Int) H' (Q' : VK), ns[i]? = some c → Same H H' → (∀ H'', Same H' H'' → Q' (.int (h c)) H'') → te ((wipe σ vs).set j (some (.int c))) H' Q')
    (k : ∀ q H', H q = none → Same H H' → H' q = some (.lst ((ns.map h).map V.int)) → Q (.ref q) H') : kLcL K (gName j) tYes te vs σ Q (.ref p) H :=
  g_kLcLV (fun x => match x with | .int c => .int (h c) | y => y) hx (by rw [List.length_map]; exact hn) hw
    (fun i x H' Q' hi s q => by
      rw [List.getElem?_map] at hi
      cases e : ns[i]? with
      | none => rw [e] at hi; cases hi
      | some c =>
        rw [e] at hi
        have := Option.some.inj hi
        subst this
        exact he i c H' Q' e s q)
    fun q H' h1 h2 h3 => k q H' h1 h2 (by
      rw [h3, List.map_map, List.map_map] <;> rfl)
theorem g_kLcLIF (b : Int → Bool) (h : Int → Int) (hx : SqL K H p (ns.map V.int)) (hn : ns.length ≤ 50000) (hw : ∀ x, wipe ((wipe σ vs).set j (some x)) vs = wipe σ vs)
    (ht : ∀ (i : Nat) (c : Int) H' (Q' : Bool → Hp → Prop), ns[i]? = some c → Same H H' → (∀ H'', Same H' H'' → Q' (b c) H'') → tt ((wipe σ vs).set j (some (.int c))) H' Q')
    (he : ∀ (i : Nat) (c : Int) H' (Q' : VK), ns[i]? = some c → b c = true → Same H H' → (∀ H'', Same H' H'' → Q' (.int (h c)) H'') → te ((wipe σ vs).set j (some (.int c))) H' Q')
    (k : ∀ q H', H q = none → Same H H' → H' q = some (.lst (((ns.filter b).map h).map V.int)) → Q (.ref q) H') : kLcL K (gName j) tt te vs σ Q (.ref p) H :=
  g_kLcLF (fun x => match x with | .int c => b c | _ => false) (fun x => match x with | .int c => .int (h c) | y => y) hx (by rw [List.length_map]; exact hn) hw
    (fun i x H' Q' hi s q => by
      rw [List.getElem?_map] at hi
      cases e : ns[i]? with
      | none => rw [e] at hi; cases hi
      | some c =>
        rw [e] at hi
        have := Option.some.inj hi
        subst this
        exact ht i c H' Q' e s q)
    (fun i x H' Q' hi hb s q => by
      rw [List.getElem?_map] at hi
      cases e : ns[i]? with
      | none => rw [e] at hi; cases hi
      | some c =>
        rw [e] at hi
        have := Option.some.inj hi
        subst this
        exact he i c H' Q' e hb s q)
    fun q H' h1 h2 h3 => k q H' h1 h2 (by
      rw [h3, List.filter_map, List.map_map, List.map_map] <;> rfl)
end
end Wk
namespace Wk
open PySem PySem.Spec PyProof.Rows L2
section
variable {K : PySem.W.Frag} {σ : L2.St} {H : Hp} {Q : VK} {te tl ta : TE} {tt : TT} {vs : List Nat} {p q : Addr} {xs ys : List V} {j : Nat} {ns : List Int}
/-- over a list, some kept: values and tests told by data that stand beside the items -/
theorem g_kLcLD {δ : Type} (D : List δ) (b : δ → Bool) (f : δ → V) (hx : SqL K H p xs) (hl : xs.length = D.length) (hn : xs.length ≤ 50000) (hw : ∀ x, wipe ((wipe σ vs).set j (some x)) vs = wipe σ vs)
    (ht : ∀ (i : Nat) (x : V) (d : δ) H' (Q' : Bool → Hp → Prop), xs[i]? = some x → D[i]? = some d → Same H H' → (∀ H'', Same H' H'' → Q' (b d) H'') → tt ((wipe σ vs).set j (some x)) H' Q')
    (he : ∀ (i : Nat) (x : V) (d : δ) H' (Q' : VK), xs[i]? = some x → D[i]? = some d → b d = true → Same H H' → (∀ H'', Same H' H'' → Q' (f d) H'') → te ((wipe σ vs).set j (some x)) H' Q')
    (k : ∀ q H', H q = none → Same H H' → H' q = some (.lst ((D.filter b).map f)) → Q (.ref q) H') : kLcL K (gName j) tt te vs σ Q (.ref p) H := by
  refine ⟨p, rfl, ⟨xs, hx⟩, fun E hE => ?_⟩
  refine lc_list (K := K) (a := p) (xs := xs) (fun i H' => Same H H' ∧ H' E = some (.lst (((D.take i).filter b).map f)))
    ⟨same_new hE, by rw [List.take_zero]; exact upd_same⟩ (fun i H' _ hP => seqL hP.1 hx) (fun i x H' hi hP => ?_) (fun H' hP => ?_)
  · obtain ⟨s, e⟩ := hP
    have hil := (List.getElem?_eq_some_iff.mp hi).1
    obtain ⟨d, hd⟩ : ∃ d, D[i]? = some d := ⟨_, List.getElem?_eq_getElem (by omega)⟩
    have ht1 : D.take (i + 1) = D.take i ++ [d] := by rw [List.take_add_one, hd] <;> rfl
    show wipe ((wipe σ vs).set j (some x)) vs = wipe σ vs ∧ tt ((wipe σ vs).set j (some x)) H' _
    refine ⟨hw _, ht i x d H' _ hi hd s fun H2 s2 => ?_⟩
    cases hb : b d with
    | true =>
      refine he i x d H2 _ hi hd hb (Same.via s s2) fun H3 s3 => ⟨_, s3 _ _ (s2 _ _ e), szl ?_, Same.mutd (Same.via s (Same.via s2 s3)) mv_upd hE, ?_⟩
      · rw [List.length_map]
        have := List.length_filter_le b (D.take i)
        rw [List.length_take] at this
        omega
      · rw [upd_same, ht1, List.filter_append, List.map_append, List.filter_cons, if_pos hb] <;> rfl
    | false =>
      show Same H H2 ∧ H2 E = some (.lst (((D.take (i + 1)).filter b).map f))
      refine ⟨Same.via s s2, ?_⟩
      rw [ht1, List.filter_append, List.map_append, List.filter_cons, if_neg (by rw [hb]; exact Bool.false_ne_true), List.filter_nil, List.map_nil, List.append_nil]
      exact s2 _ _ e
  · obtain ⟨s, e⟩ := hP
    rw [hl, List.take_length] at e
    exact k E H' hE s e

/-- an if whose ways meet -/
theorem g_kIfJ {t u : TS} {nx bk ct : L2.St → Hp → Prop} {rt : VK} {b : Bool} (J : L2.St → Hp → Prop) (h1 : b = true → ∀ N : L2.St → Hp → Prop, (∀ σ' H', J σ' H' → N σ' H') → t ⟨N, rt, bk, ct⟩ σ H)
    (h2 : b = false → ∀ N : L2.St → Hp → Prop, (∀ σ' H', J σ' H' → N σ' H') → u ⟨N, rt, bk, ct⟩ σ H) (k : ∀ σ' H', J σ' H' → nx σ' H') : kIf t u ⟨nx, rt, bk, ct⟩ σ b H := by
  cases b with
  | true => exact h1 rfl nx k
  | false => exact h2 rfl nx k
theorem g_kAndJ {t u : TS} {v : TT} {nx bk ct : L2.St → Hp → Prop} {rt : VK} {b : Bool} {τ : L2.St} (J : L2.St → Hp → Prop) (h : ∀ N : L2.St → Hp → Prop, (∀ σ' H', J σ' H' → N σ' H') → kAnd v σ (kIf t u ⟨N, rt, bk, ct⟩ τ) b H)
    (k : ∀ σ' H', J σ' H' → nx σ' H') : kAnd v σ (kIf t u ⟨nx, rt, bk, ct⟩ τ) b H := h nx k
theorem g_kOrJ {t u : TS} {v : TT} {nx bk ct : L2.St → Hp → Prop} {rt : VK} {b : Bool} {τ : L2.St} (J : L2.St → Hp → Prop) (h : ∀ N : L2.St → Hp → Prop, (∀ σ' H', J σ' H' → N σ' H') → kOr v σ (kIf t u ⟨N, rt, bk, ct⟩ τ) b H)
    (k : ∀ σ' H', J σ' H' → nx σ' H') : kOr v σ (kIf t u ⟨nx, rt, bk, ct⟩ τ) b H := h nx k
theorem g_kIfV {t u : TS} {D : Ends} {b : Bool} (h1 : b = true → t D σ H) (h2 : b = false → u D σ H) : kIf t u D σ b H := g_kIf h1 h2
/-- a < b < c -/
theorem g_chain {r r' : R2} {tb tc : TE} (h : ta σ H fun x H1 => tb σ H1 fun y H2 => r x y H2 (kChain r' tc σ y Q)) : tChain r r' ta tb tc σ H Q := h
theorem g_kChain {r' : R2} {tc : TE} {y : V} {b : Bool} (h1 : b = true → tc σ H fun w H4 => r' y w H4 Q) (h2 : b = false → Q (.bl false) H) : kChain r' tc σ y Q (.bl b) H := ⟨b, rfl, by
  cases b with
  | true => exact h1 rfl
  | false => exact h2 rfl⟩
theorem g_kChainm {r' : R2} {tc : TE} {y : V} {b : Bool} (d : Bool) (h1 : b = true → ∀ Q' : VK, (∀ H', Same H H' → Q' (.bl d) H') → tc σ H fun w H4 => r' y w H4 Q') (h2 : b = false → d = false) (k : ∀ H', Same H H' → Q (.bl d) H') : kChain r' tc σ y Q (.bl b) H :=
  g_kChain (fun hb => h1 hb Q k) fun hb => by have q := k H (Same.refl H); rw [h2 hb] at q; exact q
/-- while -/
def kW (Pv : Nat → L2.St → Hp → Prop) (m : Nat) (tb : TS) (D : Ends) (σ : L2.St) (b : Bool) (H1 : Hp) : Prop :=
  if b = true then ∃ N : L2.St → Hp → Prop, (∀ σ' H', N σ' H' → ∃ m', m' < m ∧ Pv m' σ' H') ∧ tb { D with nx := N, ct := N, bk := D.nx } σ H1 else D.nx σ H1
theorem g_while {c : TT} {tb : TS} {D : Ends} (Pv : Nat → L2.St → Hp → Prop) (m : Nat) (h0 : Pv m σ H) (hs : ∀ m σ' H', Pv m σ' H' → c σ' H' (kW Pv m tb D σ')) : tWhile c tb D σ H := ⟨Pv, ⟨m, h0⟩, hs⟩
theorem g_kW {Pv : Nat → L2.St → Hp → Prop} {m : Nat} {tb : TS} {nx bk ct : L2.St → Hp → Prop} {rt : VK} {b : Bool} (h1 : b = true → ∀ N : L2.St → Hp → Prop, (∀ σ' H' m', m' < m → Pv m' σ' H' → N σ' H') → tb ⟨N, rt, nx, N⟩ σ H) (h2 : b = false → nx σ H) : kW Pv m tb ⟨nx, rt, bk, ct⟩ σ b H := by
  unfold kW
  cases b with
  | true => exact ⟨fun σ' H' => ∃ m', m' < m ∧ Pv m' σ' H', fun _ _ h => h, h1 rfl _ fun σ' H' m' h h' => ⟨m', h, h'⟩⟩
  | false => exact h2 rfl
/-- over a tuple, some kept -/
def kLcT (K : PySem.W.Frag) (g : TG) (tt : TT) (te : TE) (vs : List Nat) (σ : L2.St) (Q : VK) (x : V) (H : Hp) : Prop := ∃ a, x = .ref a ∧ (∃ xs, SqT K H a xs) ∧ kLc (Itt K a) g tt te vs σ Q H
theorem g_lcT {g : TG} (h : tl σ H (kLcT K g tt te vs σ Q)) : tLc (iTup K tl) g tt te vs σ H Q := h
theorem g_kLcTF (b : V → Bool) (f : V → V) (hx : SqT K H p xs) (hn : xs.length ≤ 50000) (hw : ∀ x, wipe ((wipe σ vs).set j (some x)) vs = wipe σ vs)
    (ht : ∀ (i : Nat) (x : V) H' (Q' : Bool → Hp → Prop), xs[i]? = some x → Same H H' → (∀ H'', Same H' H'' → Q' (b x) H'') → tt ((wipe σ vs).set j (some x)) H' Q')
    (he : ∀ (i : Nat) (x : V) H' (Q' : VK), xs[i]? = some x → b x = true → Same H H' → (∀ H'', Same H' H'' → Q' (f x) H'') → te ((wipe σ vs).set j (some x)) H' Q')
    (k : ∀ q H', H q = none → Same H H' → H' q = some (.lst ((xs.filter b).map f)) → Q (.ref q) H') : kLcT K (gName j) tt te vs σ Q (.ref p) H := by
  refine ⟨p, rfl, ⟨xs, hx⟩, fun D hD => ?_⟩
  refine lc_tup (K := K) (a := p) (xs := xs) (fun i H' => Same H H' ∧ H' D = some (.lst (((xs.take i).filter b).map f)))
    ⟨same_new hD, by rw [List.take_zero]; exact upd_same⟩ (fun i H' _ hP => seqT hP.1 hx) (fun i x H' hi hP => ?_) (fun H' hP => ?_)
  · obtain ⟨s, e⟩ := hP
    have hil := (List.getElem?_eq_some_iff.mp hi).1
    have ht1 : xs.take (i + 1) = xs.take i ++ [x] := by rw [List.take_add_one, hi] <;> rfl
    show wipe ((wipe σ vs).set j (some x)) vs = wipe σ vs ∧ tt ((wipe σ vs).set j (some x)) H' _
    refine ⟨hw _, ht i x H' _ hi s fun H2 s2 => ?_⟩
    cases hb : b x with
    | true =>
      refine he i x H2 _ hi hb (Same.via s s2) fun H3 s3 => ⟨_, s3 _ _ (s2 _ _ e), szl ?_, Same.mutd (Same.via s (Same.via s2 s3)) mv_upd hD, ?_⟩
      · rw [List.length_map]
        have := List.length_filter_le b (xs.take i)
        rw [List.length_take] at this
        omega
      · rw [upd_same, ht1, List.filter_append, List.map_append, List.filter_cons, if_pos hb] <;> rfl
    | false =>
      show Same H H2 ∧ H2 D = some (.lst (((xs.take (i + 1)).filter b).map f))
      refine ⟨Same.via s s2, ?_⟩
      rw [ht1, List.filter_append, List.map_append, List.filter_cons, if_neg (by rw [hb]; exact Bool.false_ne_true), List.filter_nil, List.map_nil, List.append_nil]
      exact s2 _ _ e
  · obtain ⟨s, e⟩ := hP
    rw [List.take_length] at e
    exact k D H' hD s e
/-- a slice of a tuple, not the whole -/
theorem g_slT {lo hi : Option Int} (h : SqT K H p xs) (hw : ¬ (HT.sIx xs.length 0 lo = 0 ∧ HT.sIx xs.length xs.length hi = xs.length)) (k : ∀ l H', H l = none → Same H H' → H' l = some (.tup (cutV xs lo hi)) → Q (.ref l) H') : rSlT K (.ref p) lo hi H Q :=
  ⟨p, xs, rfl, h, hw, fun l hl => k l _ hl (same_new hl) upd_same⟩
/-- for x in reversed(xs) -/
def kForV (K : PySem.W.Frag) (g : TG) (tb : TS) (D : Ends) (σ : L2.St) (vs : List V) (H : Hp) : Prop := ∃ (a : Addr) (xs : List V), vs = [.ref a] ∧ SqL K H a xs ∧ ∃ W : Nat → Nat → L2.St → Hp → Prop, (∃ m, W 0 m σ H) ∧ ∀ i m σ H, W i m σ H →
  ((Itv K a xs.length).stop i H ∧ D.nx σ H) ∨ ((Itv K a xs.length).go i H ∧ ∃ N : L2.St → Hp → Prop, (∀ σ' H', N σ' H' → ∃ m', m' < m ∧ W (i + 1) m' σ' H') ∧ ∀ x H', (Itv K a xs.length).yld i H x H' → g x σ H' fun σ2 H2 => tb { D with nx := N, ct := N, bk := D.nx } σ2 H2)
theorem g_forV {D : Ends} {g : TG} {tb : TS} {t : TA} (h : t σ H (kForV K g tb D σ)) : tFor (iRev K t) g tb D σ H := h
theorem g_kForV {g : TG} {tb : TS} {nx bk ct : L2.St → Hp → Prop} {rt : VK} (hx : SqL K H p xs) (Pv : Nat → L2.St → Hp → Prop) (h0 : Pv 0 σ H) (hl : ∀ i σ' H', Pv i σ' H' → SqL K H' p xs)
    (hs : ∀ i x σ' H', i < xs.length → xs[xs.length - 1 - i]? = some x → Pv i σ' H' → g x σ' H' fun σ2 H2 => tb ⟨Pv (i + 1), rt, nx, Pv (i + 1)⟩ σ2 H2) (hd : ∀ σ' H', Pv xs.length σ' H' → nx σ' H') : kForV K g tb ⟨nx, rt, bk, ct⟩ σ [.ref p] H := by
  refine ⟨p, xs, rfl, hx, fun i m σ H => m = xs.length - i ∧ i ≤ xs.length ∧ Pv i σ H, ⟨xs.length, by simp, Nat.zero_le _, h0⟩, ?_⟩
  rintro i m σ H ⟨rfl, hi, P⟩
  have q := hl i σ H P
  by_cases hlt : i < xs.length
  · have hg : xs[xs.length - 1 - i]? = some (xs[xs.length - 1 - i]'(by omega)) := List.getElem?_eq_getElem _
    refine .inr ⟨⟨hlt, xs, _, q, hg⟩, Pv (i + 1), fun σ' H' p' => ⟨xs.length - (i + 1), by omega, rfl, hlt, p'⟩, fun x H' y => ?_⟩
    obtain ⟨e, y⟩ := y
    subst e
    exact hs i x σ _ hlt (y xs q) P
  · have e : i = xs.length := by omega
    subst e
    exact .inl ⟨Nat.le_refl _, hd σ H P⟩
/-- sum(xs) -/
theorem g_sum (h : SqL K H p (ns.map V.int)) (k : Q (.int ns.sum) H) : rSum K [.ref p] H Q := ⟨p, ns, rfl, h, k⟩
/-- lists whose items are tuples -/
def TupsAt (H : Hp) (a : Addr) (xs : List (List V)) : Prop := ∃ as : List Addr, H a = some (.lst (as.map V.ref)) ∧ as.length = xs.length ∧ ∀ (i : Nat) b x, as[i]? = some b → xs[i]? = some x → H b = some (.tup x)
theorem TupsAt.same {H H' : Hp} {a : Addr} {xs : List (List V)} (s : Same H H') (h : TupsAt H a xs) : TupsAt H' a xs := by
  obtain ⟨as, h1, h2, h3⟩ := h
  exact ⟨as, s _ _ h1, h2, fun i b x e1 e2 => s _ _ (h3 i b x e1 e2)⟩
theorem ref_at {as : List Addr} {i : Nat} {x : V} (h : (as.map V.ref)[i]? = some x) : ∃ b, as[i]? = some b ∧ x = .ref b := by
  rw [List.getElem?_map] at h
  cases q : as[i]? with
  | none => rw [q] at h; cases h
  | some e => rw [q] at h; exact ⟨e, rfl, (Option.some.inj h).symm⟩
/-- int(x) -/
def rIntA : List V → Hp → VK → Prop := fun xs H Q => ((∃ i, xs = [.int i] ∧ Q (.int i) H) ∨ ∃ k, xs = [.bl k] ∧ Q (.int (if k then 1 else 0)) H) ∨ ∃ a n, xs = [.str a] ∧ PySem.intText? a = some n ∧ a.length ≤ 640 ∧ Q (.int n) H
theorem call_intA {X : Cx} : CallR X (.type "int") rIntA := call_int1.or call_int_str
theorem g_intB {b : Bool} (k : Q (.int (if b then 1 else 0)) H) : rIntA [.bl b] H Q := .inl (.inr ⟨b, rfl, k⟩)
theorem g_intI {i : Int} (k : Q (.int i) H) : rIntA [.int i] H Q := .inl (.inl ⟨i, rfl, k⟩)
theorem g_intS {a : Str} {n : Int} (h : PySem.intText? a = some n) (hl : a.length ≤ 640) (k : Q (.int n) H) : rIntA [.str a] H Q := .inr ⟨a, n, rfl, h, hl, k⟩
/-- a call of a local that holds a def -/
theorem g_callL {i : Nat} {f : Addr} {sp : Sp} {E : XK} {t : TA} (hs : σ[i]? = some (some (.ref f))) (h : t σ H (kCall sp E Q)) : tCallL i f sp [] E t σ H Q := ⟨hs, g_call h⟩
/-- tuple(xs), xs a list -/
def rTupA (K : PySem.W.Frag) : List V → Hp → VK → Prop := fun xs H Q => ∃ p ys, xs = [.ref p] ∧ ((SqL K H p ys ∧ ∀ l, H l = none → Q (.ref l) (upd H l (.tup ys))) ∨ (SqT K H p ys ∧ Q (.ref p) H))
theorem call_tupleA {X : Cx} : CallR X (.type "tuple") (rTupA X.K) := call_tuple_of
theorem g_tupL (h : SqL K H p xs) (k : ∀ l H', H l = none → Same H H' → H' l = some (.tup xs) → Q (.ref l) H') : rTupA K [.ref p] H Q := ⟨p, xs, rfl, .inl ⟨h, fun l hl => k l _ hl (same_new hl) upd_same⟩⟩
/-- all(bs) -/
theorem g_all {bs : List Bool} (h : SqL K H p (bs.map V.bl)) (k : Q (.bl (bs.all id)) H) : rAll K [.ref p] H Q := ⟨p, bs, rfl, h, k⟩
/-- lists of other lengths are unlike, whatever they hold -/
def rEqL (K : PySem.W.Frag) : R2 := fun x y H Q => rEqA K x y H Q ∨ ∃ a b xs ys, x = .ref a ∧ y = .ref b ∧ SqL K H a xs ∧ SqL K H b ys ∧ xs.length ≠ ys.length ∧ Q (.bl false) H
theorem op_eqL {X : Cx} (hu : X.A.units + 64 < cLine) : OpR X (compareOp .Eq) (rEqL X.K) := by
  refine (op_eqA hu).or ?_
  intro pins s σ H x y v u Q I rx ry h
  obtain ⟨a, b, xs, ys, rfl, rfl, ha, hb, hne, q⟩ := h
  obtain rfl : v = Value.ref a := rx
  obtain rfl : u = Value.ref b := ry
  obtain ⟨its, rv, pl, _⟩ := I.list ha
  obtain ⟨its2, rv2, pl2, _⟩ := I.list hb
  exact PySem.SeqAt.RcAt.lists_lengths pl.isList pl2.isList (by
    have h1 := rv.length
    have h2 := rv2.length
    simp only [List.size_toArray, bne_iff_ne, ne_eq]
    omega) (by omega) _ _ _ _ ⟨.bl false, H, I, rfl, q⟩
theorem g_eqLen {a b : Addr} (ha : SqL K H a xs) (hb : SqL K H b ys) (hne : xs.length ≠ ys.length) (k : Q (.bl false) H) : rEqL K (.ref a) (.ref b) H Q := .inr ⟨a, b, xs, ys, rfl, rfl, ha, hb, hne, k⟩
theorem g_eqLD {d e : PyData} {v w : V} (h1 : Dp K H v d) (h2 : Dp K H w e) (s1 : SeqAt.shaped d = true) (s2 : SeqAt.shaped e = true) (k : Q (.bl (PyData.eqv d e)) H) : rEqL K v w H Q := .inl (g_eqD h1 h2 s1 s2 k)
/-- over a list, all kept, values told by data that stand beside the items -/
theorem g_kLcLE {δ : Type} (D : List δ) (f : δ → V) (hx : SqL K H p xs) (hl : xs.length = D.length) (hn : xs.length ≤ 50000) (hw : ∀ x, wipe ((wipe σ vs).set j (some x)) vs = wipe σ vs)
    (he : ∀ (i : Nat) (x : V) (d : δ) H' (Q' : VK), xs[i]? = some x → D[i]? = some d → Same H H' → (∀ H'', Same H' H'' → Q' (f d) H'') → te ((wipe σ vs).set j (some x)) H' Q')
    (k : ∀ q H', H q = none → Same H H' → H' q = some (.lst (D.map f)) → Q (.ref q) H') : kLcL K (gName j) tYes te vs σ Q (.ref p) H :=
  g_kLcL hx hn (fun i v _ => ∃ d, D[i]? = some d ∧ v = f d) hw (fun i x H' Q' hi s q => by
    obtain ⟨d, hd⟩ : ∃ d, D[i]? = some d := ⟨_, List.getElem?_eq_getElem (by have := (List.getElem?_eq_some_iff.mp hi).1; omega)⟩
    exact he i x d H' Q' hi hd s fun H'' s2 => q _ _ s2 fun _ _ _ => ⟨d, hd, rfl⟩)
    fun q H' ys h1 h2 h3 h4 h5 => k q H' h1 h2 (by rw [← map_ext_get (by rw [h4, hl]) h5]; exact h3)
/-- for c in text -/
def kForS (g : TG) (tb : TS) (D : Ends) (σ : L2.St) (x : V) (H : Hp) : Prop := ∃ z, x = .str z ∧ ∃ W : Nat → Nat → L2.St → Hp → Prop, (∃ m, W 0 m σ H) ∧ ∀ i m σ H, W i m σ H →
  ((Its z).stop i H ∧ D.nx σ H) ∨ ((Its z).go i H ∧ ∃ N : L2.St → Hp → Prop, (∀ σ' H', N σ' H' → ∃ m', m' < m ∧ W (i + 1) m' σ' H') ∧ ∀ x H', (Its z).yld i H x H' → g x σ H' fun σ2 H2 => tb { D with nx := N, ct := N, bk := D.nx } σ2 H2)
theorem g_forS {D : Ends} {g : TG} {tb : TS} (h : te σ H (kForS g tb D σ)) : tFor (iStr te) g tb D σ H := h
theorem g_kForS {g : TG} {tb : TS} {nx bk ct : L2.St → Hp → Prop} {rt : VK} {z : Str} (Pv : Nat → L2.St → Hp → Prop) (h0 : Pv 0 σ H)
    (hs : ∀ i c σ' H', z.cps[i]? = some c → Pv i σ' H' → g (.str ⟨#[c]⟩) σ' H' fun σ2 H2 => tb ⟨Pv (i + 1), rt, nx, Pv (i + 1)⟩ σ2 H2) (hd : ∀ σ' H', Pv z.cps.size σ' H' → nx σ' H') : kForS g tb ⟨nx, rt, bk, ct⟩ σ (.str z) H := by
  refine ⟨z, rfl, fun i m σ H => m = z.cps.size - i ∧ i ≤ z.cps.size ∧ Pv i σ H, ⟨z.cps.size, by simp, Nat.zero_le _, h0⟩, ?_⟩
  rintro i m σ H ⟨rfl, hi, P⟩
  by_cases hlt : i < z.cps.size
  · refine .inr ⟨hlt, Pv (i + 1), fun σ' H' p' => ⟨z.cps.size - (i + 1), by omega, rfl, hlt, p'⟩, fun x H' y => ?_⟩
    obtain ⟨e, c, hc, ex⟩ := y
    subst e
    subst ex
    exact hs i c σ _ hc P
  · have e : i = z.cps.size := by omega
    subst e
    exact .inl ⟨Nat.le_refl _, hd σ H P⟩
/-- str(i) -/
def rStrA : List V → Hp → VK → Prop := fun xs H Q => ∃ i : Int, xs = [.int i] ∧ i.natAbs.log2 < 1920 ∧ Q (.str (toString i)) H
theorem call_strA {X : Cx} : CallR X (.type "str") rStrA := call_str_int
theorem g_strI {i : Int} (h : i.natAbs.log2 < 1920) (k : Q (.str (Str.ofString (toString i))) H) : rStrA [.int i] H Q := ⟨i, rfl, h, k⟩
/-- text[lo:hi] -/
theorem g_slS {z : Str} {lo hi : Option Int} (h : z.length ≤ 100000) (k : Q (.str (cutS z lo hi)) H) : rSlS (.str z) lo hi H Q := ⟨z, rfl, sz h, k⟩
/-- a.split(b) -/
def rSplit : V → List V → Hp → VK → Prop := fun x xs H Q => ∃ a b, x = .str a ∧ xs = [.str b] ∧ (b.length == 0) = false ∧ a.length + 2 ≤ sizeLine ∧ rNewStrs (Txt.split a b) H Q
theorem g_split {a b : Str} (hb : (b.length == 0) = false) (ha : a.length + 2 ≤ 16777216) (k : ∀ p H', H p = none → Same H H' → H' p = some (.lst ((Txt.split a b).map V.str)) → Q (.ref p) H') : rSplit (.str a) [.str b] H Q :=
  ⟨a, b, rfl, rfl, hb, by rw [sizeLine_eq]; exact ha, fun p hp => k p _ hp (same_new hp) upd_same⟩
/-- c not in text -/
def rNotInSign : R2 := fun x y H Q => ∃ (c : Nat) (z : Str), x = .str ⟨#[c]⟩ ∧ y = .str z ∧ Q (.bl (!decide (c ∈ z.cps.toList))) H
theorem op_notInSign {X : Cx} : OpR X (compareOp .NotIn) rNotInSign := op_notIn_sign
theorem g_notInSign {c : Nat} {z : Str} (k : Q (.bl (!decide (c ∈ z.cps.toList))) H) : rNotInSign (.str ⟨#[c]⟩) (.str z) H Q := ⟨c, z, rfl, rfl, k⟩
abbrev StrEx {K : PySem.W.Frag} {h : Heap} (_ : K.In h) (mg : Str → Option Value) (x z : Str) : Prop := ∃ t, mg x = some (.str z t)
theorem strEx_mk {K : PySem.W.Frag} {mg : Str → Option Value} {h : Heap} {x z z' : Str} {t : Tok} (X : K.In h) (G : h.Ns mainGlobals mg) (a : PySem.W.nsIn K mainGlobals x = some (some (.str z' t))) (e : z' = z) : StrEx X mg x z := ⟨t, by subst e; exact PySem.W.mg_of X G a⟩
end
end Wk
/-! exceptions: raised, caught, asked -/
namespace Wk
open PySem PySem.Spec PyProof.Rows L2
abbrev bmVE : List Value := [.type "ValueError", .type "Exception", .type "BaseException", .type "object"]
/-- an own class of errors over ValueError -/
structure ExcT (K : PySem.W.Frag) (mg : Str → Option Value) (x : Str) (D : Addr) : Prop where
  g : mg x = some (.ref D)
  q : PySem.W.excIn K D bmVE "ValueError.__new__" = true
  k : PySem.W.keepIn K (.ref D) = true
  b : PySem.W.subIn K (.ref D) (.type "BaseException") = some true
  t : PySem.W.typeIn K (.ref D) = some (.type "type")
  c : ExcC K D
  v : PySem.W.kitOne K (.ref D) (.type "ValueError") = some true
theorem excT_mk {K : PySem.W.Frag} {mg : Str → Option Value} {h : Heap} {x : Str} {D : Addr} (X : K.In h) (G : h.Ns mainGlobals mg) (a : PySem.W.nsIn K mainGlobals x = some (some (.ref D)))
    (q : PySem.W.excIn K D bmVE "ValueError.__new__" = true) (k : PySem.W.keepIn K (.ref D) = true) (b : PySem.W.subIn K (.ref D) (.type "BaseException") = some true) (t : PySem.W.typeIn K (.ref D) = some (.type "type"))
    (hg : PySem.W.findIn K (.ref D) "__getattribute__" = some (some (.builtin "BaseException.__getattribute__"))) (hk : PySem.W.findIn K (.ref D) "__getattr__" = some none)
    (hd : PySem.W.hasDictIn K D = true) (ha : PySem.W.findIn K (.ref D) "__class__" = some (some (.builtin "object.__class__"))) (hn : PySem.W.specialIn K (.builtin "object.__class__") "__get__" = some (some (.builtin "getset_descriptor.__get__")))
    (ht : PySem.W.takesIn K (.builtin "object.__class__") = some true) (hm : PySem.W.mroIn K D (.type "object") = some true) (vs : PySem.W.subIn K (.ref D) (.type "ValueError") = some true) : ExcT K mg x D :=
  ⟨PySem.W.mg_of X G a, q, k, b, t, ⟨hg, hk, b, hd, ha, hn, ht, hm⟩, by
    show (if ((Value.ref D == Value.type "ValueError") = true) then some true else PySem.W.kitCls K (.ref D) (.type "ValueError")) = some true
    rw [if_neg (by simp)]
    show (if PySem.W.kitMeta "ValueError" = true then PySem.W.subIn K (.ref D) (.type "ValueError") else none) = some true
    rw [if_pos (by decide +kernel)]
    exact vs⟩
/-- D is a C, or not -/
structure ExcRel (K : PySem.W.Frag) (D C : Addr) (b : Bool) : Prop where
  kit : PySem.W.kitOne K (.ref D) (.ref C) = some b
  exm : PySem.W.exmOne K (.ref D) (.ref C) = some b
theorem excRel_self {K : PySem.W.Frag} {C : Addr} (b : PySem.W.subIn K (.ref C) (.type "BaseException") = some true) (hd : PySem.W.hasDictIn K C = true) (t : PySem.W.typeIn K (.ref C) = some (.type "type")) (s : PySem.W.subIn K (.ref C) (.ref C) = some true) : ExcRel K C C true :=
  ⟨if_pos (beq_self_eq_true _), PySem.W.exm_ref b hd t s⟩
theorem excRel_mk {K : PySem.W.Frag} {C D : Addr} {v : Bool} (b : PySem.W.subIn K (.ref C) (.type "BaseException") = some true) (hd : PySem.W.hasDictIn K C = true) (t : PySem.W.typeIn K (.ref C) = some (.type "type")) (s : PySem.W.subIn K (.ref D) (.ref C) = some v) (hne : (Value.ref D == Value.ref C) = false) : ExcRel K D C v := by
  refine ⟨?_, PySem.W.exm_ref b hd t s⟩
  show (if ((Value.ref D == Value.ref C) = true) then some true else PySem.W.kitCls K (.ref D) (.ref C)) = some v
  rw [hne, if_neg Bool.false_ne_true]
  show (if ((PySem.W.clsIn K C).isSome && PySem.W.typeIn K (.ref C) == some (.type "type")) = true then PySem.W.subIn K (.ref D) (.ref C) else none) = some v
  obtain ⟨cd, hc, _⟩ := PySem.W.any_some hd
  rw [hc, t]
  exact s
section
variable {X : Cx} {CX : CXT} {k : Nat} {f C : Addr} {ps : List Str} {sp : Sp} {E : L2.St → XK} {x m : Str} {p p2 pos apos pos' : Pos} {e o : Expr} {es : List Expr} {ta : TE} {t : TA} {j : Nat}
theorem pe_callSR (R : Rd X.prog X.w X.K X.mg X.base CX k x ps sp) (hr : Room k X.A) (hg : Gl X x) (hx : ∀ σ, PassesAt CX X σ (E σ)) (ha : PA X (e :: es) t) (hdb : (x == ("__debug__" : Str)) = false := by decide)
    (he : starEach (e :: es) X.env = (false, eval e X.env) :: starEach es X.env := by rfl) (hpl : (backTo pos (starEach es X.env)).any (·.1) = false := by rfl) :
    PE X (.Call (.Name x p) (e :: es) [] pos) (tCallS sp E t) := by
  obtain ⟨f, fd, F, g, kp, b⟩ := R
  exact pe_callS F hr hg g kp b hx ha hdb he hpl
/-- raise C('..') -/
def tRaise (C : Addr) (W : WX) : TS := fun _ σ H => W (.ref C) none σ H
theorem ps_raiseK {W : WX} {D : Addr} (T : ExcT X.K X.mg x D) (hc : X.calm = true) (tk : Takes X W) (hg : Gl X x) (hdb : (x == ("__debug__" : Str)) = false := by decide) : PS X (.Raise (some (.Call (.Name x p) [.Constant (.str m) j p2] [] pos)) none pos') (tRaise D W) :=
  ps_raise hc tk (pmk_own PySem.F.excBase_ValueError T.q T.g T.k (raises_own T.b T.t) hg hdb)
theorem g_raise {C : Addr} {W : WX} {D : Ends} {σ : L2.St} {H : Hp} (h : W (.ref C) none σ H) : tRaise C W D σ H := h
theorem g_callS {σ : L2.St} {H : Hp} {Q : VK} (h : t σ H (kCall sp (E σ) Q)) : tCallS sp E t σ H Q := h
/-- try: .. except C as n: .. -/
def tTryAs (K : PySem.W.Frag) (c : Value) (i : Nat) (ts : Addr → Value → Option Addr → TS) (tb : WX → TS) : TS := fun D σ H => tb (wAs K c i ts (fun _ _ _ _ => False) D) D σ H
def tTryOnly (K : PySem.W.Frag) (c : Value) (ts : Addr → Value → Option Addr → TS) (tb : WX → TS) : TS := fun D σ H => tb (wOnly K c ts (fun _ _ _ _ => False) D) D σ H
def tTryMany (K : PySem.W.Frag) (l : List (Value × (Addr → Value → Option Addr → TS))) (tb : WX → TS) : TS := fun D σ H => tb (wMany K (fun _ _ _ _ => False) D l) D σ H
variable {n : Str} {i : Nat} {c : Value} {body suite : List Stmt} {b₀ : Stmt} {np : Pos} {tb : WX → TS} {ts : Addr → Value → Option Addr → TS}
theorem ps_tryAsK (hs : X.stack = X.env :: X.outer) (hf : X.env.frame = some X.env.locals) (hN : X.N.Nodup) (hi : X.N[i]? = some n) (hln : X.env.kindOf n = some .local) (hc : Names X x c)
    (hb : ∀ (W : WX) (pn : List (Addr × Obj)) (xe : Value → Shared → Prop), Takes (X.tr pn xe) W → PassesOwn (model X.prog X.w) X.A X.env xe → PSs (X.tr pn xe) body (tb W))
    (hsu : ∀ (a : Addr) (oe : Obj) (cls : Value) (d : Option Addr) (pn : List (Addr × Obj)), Zc cls d oe → (∃ vs, oe.data = .fields vs) → PSs (X.suite a ((a, oe) :: pn)) (b₀ :: suite) (ts a cls d)) :
    PS X (.Try body [.ExceptHandler (some (.Name x np)) (some n) (b₀ :: suite) pos'] [] [] pos) (tTryAs X.K c i ts tb) := ps_try_as hs hf hN hi hln hc takes0 hb hsu
theorem ps_tryOnlyK (hs : X.stack = X.env :: X.outer) (hf : X.env.frame = some X.env.locals) (hc : Names X x c)
    (hb : ∀ (W : WX) (pn : List (Addr × Obj)) (xe : Value → Shared → Prop), Takes (X.tr pn xe) W → PassesOwn (model X.prog X.w) X.A X.env xe → PSs (X.tr pn xe) body (tb W))
    (hsu : ∀ (a : Addr) (oe : Obj) (cls : Value) (d : Option Addr) (pn : List (Addr × Obj)), Zc cls d oe → (∃ vs, oe.data = .fields vs) → PSs (X.suite a ((a, oe) :: pn)) (b₀ :: suite) (ts a cls d)) :
    PS X (.Try body [.ExceptHandler (some (.Name x np)) none (b₀ :: suite) pos'] [] [] pos) (tTryOnly X.K c ts tb) := ps_try_only hs hf hc takes0 hb hsu
theorem ps_tryManyK {h₀ : ExceptHandler} {hds : List ExceptHandler} {l : List (Value × (Addr → Value → Option Addr → TS))} (hs : X.stack = X.env :: X.outer) (hf : X.env.frame = some X.env.locals)
    (hb : ∀ (W : WX) (pn : List (Addr × Obj)) (xe : Value → Shared → Prop), Takes (X.tr pn xe) W → PassesOwn (model X.prog X.w) X.A X.env xe → PSs (X.tr pn xe) body (tb W))
    (hh : HdsOk X (h₀ :: hds) l) : PS X (.Try body (h₀ :: hds) [] [] pos) (tTryMany X.K l tb) := ps_try_many hs hf takes0 hb hh
end
section
variable {K : PySem.W.Frag} {c cls : Value} {i : Nat} {ts : Addr → Value → Option Addr → TS} {tb : WX → TS} {σ : L2.St} {H : Hp} {d : Option Addr} {nx bk ct : L2.St → Hp → Prop} {rt : VK}
theorem g_tryAs {D : Ends} (h : tb (wAs K c i ts (fun _ _ _ _ => False) D) D σ H) : tTryAs K c i ts tb D σ H := h
theorem g_tryOnly {D : Ends} (h : tb (wOnly K c ts (fun _ _ _ _ => False) D) D σ H) : tTryOnly K c ts tb D σ H := h
theorem g_tryMany {D : Ends} {l : List (Value × (Addr → Value → Option Addr → TS))} (h : tb (wMany K (fun _ _ _ _ => False) D l) D σ H) : tTryMany K l tb D σ H := h
/-- the error is the clause's -/
theorem in_as (he : PySem.W.exmOne K cls c = some true) (h : ∀ a, H a = none → ts a cls d ⟨fun σ' H' => nx (σ'.set i none) H', rt, fun σ' H' => bk (σ'.set i none) H', fun σ' H' => ct (σ'.set i none) H'⟩ (σ.set i (some (.ref a))) H) : WE (wAs K c i ts (fun _ _ _ _ => False) ⟨nx, rt, bk, ct⟩) σ cls d H :=
  ⟨true, he, fun _ => h, fun z => nomatch z⟩
theorem in_only (he : PySem.W.exmOne K cls c = some true) (h : ∀ a, H a = none → ts a cls d ⟨nx, rt, bk, ct⟩ σ H) : WE (wOnly K c ts (fun _ _ _ _ => False) ⟨nx, rt, bk, ct⟩) σ cls d H :=
  ⟨true, he, fun _ => h, fun z => nomatch z⟩
theorem in_many {Wo : WX} {l : List (Value × (Addr → Value → Option Addr → TS))} (he : PySem.W.exmOne K cls c = some true) (h : ∀ a, H a = none → ts a cls d ⟨nx, rt, bk, ct⟩ σ H) : WE (wMany K Wo ⟨nx, rt, bk, ct⟩ ((c, ts) :: l)) σ cls d H :=
  ⟨true, he, fun _ => h, fun z => nomatch z⟩
theorem past_many {Wo : WX} {l : List (Value × (Addr → Value → Option Addr → TS))} {D : Ends} (he : PySem.W.exmOne K cls c = some false) (h : WE (wMany K Wo D l) σ cls d H) : WE (wMany K Wo D ((c, ts) :: l)) σ cls d H :=
  ⟨false, he, fun z => (nomatch z), fun _ => h⟩
/-- isinstance(e, C), e caught -/
def rIsEx (K : PySem.W.Frag) (a : Addr) (cls : Value) (d : Option Addr) : List V → Hp → VK → Prop := fun xs H Q => ∃ D, cls = .ref D ∧ d = none ∧ ExcC K D ∧ rIsE K D a xs H Q
theorem call_isEx {X : Cx} {a : Addr} {oe : Obj} {pn : List (Addr × Obj)} (hK : X.K = K) (hz : Zc cls d oe) (hf : ∃ vs, oe.data = .fields vs) : CallR (X.suite a ((a, oe) :: pn)) (.builtin "isinstance") (rIsEx K a cls d) := by
  subst hK
  intro pins s σ H xs us Q I r h
  obtain ⟨D, rfl, rfl, C, h⟩ := h
  exact call_isE C hz hf pins s σ H xs us Q I r h
theorem g_isE {D C a : Addr} {b : Bool} {Q : VK} (T : ExcC K D) (R : ExcRel K D C b) (k : Q (.bl b) H) : rIsEx K a (.ref D) none [.ref a, .ref C] H Q := ⟨D, rfl, rfl, T, _, _, b, rfl, fun u r => by cases r; rfl, R.kit, k⟩
theorem g_isV {D a : Addr} {Q : VK} (T : ExcC K D) (v : PySem.W.kitOne K (.ref D) (.type "ValueError") = some true) (k : Q (.bl true) H) : rIsEx K a (.ref D) none [.ref a, .ty "ValueError"] H Q := ⟨D, rfl, rfl, T, _, _, true, rfl, fun u r => by cases r; rfl, v, k⟩
end
end Wk
/-! methods, dicts -/
namespace Wk
open PySem PySem.Spec PyProof.Rows L2
section
variable {X : Cx} {CX : CXT} {k : Nat} {f C : Addr} {ps : List Str} {sp : Sp} {E : XK} {ES : L2.St → XK} {x m : Str} {p pos apos : Pos} {e o : Expr} {es : List Expr} {ta : TE} {t : TA}
def tMethR (C : Addr) (m : Str) (sp : Sp) (E : L2.St → XK) (ta : TE) (t : TA) : TE := fun σ H Q => ta σ H fun x H1 => ∃ a dx fs, x = .ref a ∧ H1 a = some (.ins C dx fs) ∧ fs.lookup m = none ∧ t σ H1 fun vs H2 => sp (x :: vs) H2 Q (E σ)
theorem pe_methSR {pl : Sem Bool} (R : Rm X.prog X.w X.K X.mg X.base CX k f ps sp) (he : PE X o ta) (c : Cls X.K C) (hm : Meth X.K C m f) (hr : Room k X.A) (hx : ∀ σ, PassesAt CX X σ (ES σ)) (ha : PA X (e :: es) t)
    (hst : starEach (e :: es) X.env = (false, eval e X.env) :: starEach es X.env := by rfl) (hpl : (backTo pos (starEach es X.env)).any (·.1) = false := by rfl)
    (ht : eval (.Call (.Attribute o m apos) (e :: es) [] pos) X.env = (do
      let ov ← eval o X.env
      standAt apos.atName
      let (f, first) ← holding [ov] (getMethod ov m pl)
      callWith pos f first (backTo pos (starEach (e :: es) X.env)) (backToKw pos (keywordEach [] X.env))) := by rfl) :
    PE X (.Call (.Attribute o m apos) (e :: es) [] pos) (tMethR C m sp ES ta t) := by
  obtain ⟨fd, F, hb⟩ := R
  refine ⟨fun pins s σ H Q I h => ?_⟩
  refine PySem.W.methodCall_KW (pl := pl) (thn (he.run pins s σ H _ I h) fun u s1 ⟨x, H1, I1, rx, a, dx, fs, ex, ea, l, q⟩ => ?_) ht
  subst ex
  obtain rfl : u = Value.ref a := rx
  refine getmeth_ok I1 ea c hm l ?_
  refine PySem.W.callWith_K (first := [.ref a]) (h₀ := X.base) I.ok.mod.kin hm.kp (thn (ha.run pos pins s1 σ H1 _ I1 q) fun us s2 ⟨vs, H2, I2, r, q2⟩ => ⟨I2.kIn, ?_⟩) hst hpl
  exact run_fnS (us := .ref a :: us) (vs := .ref a :: vs) F hr hb (hx σ) I2 (.cons rfl r) q2
theorem pe_methSR0 {pl : Sem Bool} (R : Rm X.prog X.w X.K X.mg X.base CX k f ps sp) (he : PE X o ta) (c : Cls X.K C) (hm : Meth X.K C m f) (hr : Room k X.A) (hx : ∀ σ, PassesAt CX X σ (ES σ))
    (ht : eval (.Call (.Attribute o m apos) [] [] pos) X.env = (do
      let ov ← eval o X.env
      standAt apos.atName
      let (f, first) ← holding [ov] (getMethod ov m pl)
      callWith pos f first (backTo pos (starEach [] X.env)) (backToKw pos (keywordEach [] X.env))) := by rfl) :
    PE X (.Call (.Attribute o m apos) [] [] pos) (tMethR C m sp ES ta tNil) := by
  obtain ⟨fd, F, hb⟩ := R
  refine ⟨fun pins s σ H Q I h => ?_⟩
  refine PySem.W.methodCall_KW (pl := pl) (thn (he.run pins s σ H _ I h) fun u s1 ⟨x, H1, I1, rx, a, dx, fs, ex, ea, l, q⟩ => ?_) ht
  subst ex
  obtain rfl : u = Value.ref a := rx
  refine getmeth_ok I1 ea c hm l ?_
  exact PySem.W.callWith_K0 (first := [.ref a]) I1.kIn hm.kp (run_fnS (us := [.ref a]) (vs := [.ref a]) F hr hb (hx σ) I1 (.cons rfl .nil) q)
theorem passAt0 {X : Cx} (σ : L2.St) : PassesAt CX0 X σ E0 := fun _ _ _ _ _ _ h => h.elim
theorem pe_makeR0 (M : Mk X.K C f) (R : Rm X.prog X.w X.K X.mg X.base CX k f ps sp) (hr : Room (k + 1) X.A) (hg : Gl X x) (hm : X.mg x = some (.ref C)) (hx : Passes CX X E) (hdb : (x == ("__debug__" : Str)) = false := by decide) : PE X (.Call (.Name x p) [] [] pos) (tMake C sp [] E tNil) := by
  obtain ⟨fd, F, b⟩ := R
  exact pe_make0 M F hr hg hm b .nil hx hdb
variable {σ : L2.St} {H : Hp} {Q : VK} {a dx : Addr} {fs : List (Str × V)}
def kMeth (C : Addr) (m : Str) (sp : Sp) (E : XK) (t : TA) (σ : L2.St) (Q : VK) (x : V) (H1 : Hp) : Prop := ∃ a dx fs, x = .ref a ∧ H1 a = some (.ins C dx fs) ∧ fs.lookup m = none ∧ t σ H1 fun vs H2 => sp (x :: vs) H2 Q E
def kMc (sp : Sp) (E : XK) (Q : VK) (x : V) (vs : List V) (H : Hp) : Prop := sp (x :: vs) H Q E
theorem g_meth (h : ta σ H (kMeth C m sp (ES σ) t σ Q)) : tMethR C m sp ES ta t σ H Q := h
theorem g_kMeth (h : H a = some (.ins C dx fs)) (hl : fs.lookup m = none) (k : t σ H (kMc sp E Q (.ref a))) : kMeth C m sp E t σ Q (.ref a) H := ⟨a, dx, fs, rfl, h, hl, k⟩
end
section
variable {K : PySem.W.Frag} {σ : L2.St} {H : Hp} {Q : VK} {te tl ta : TE} {p q a : Addr} {xs ys : List V} {v x : V}
/-- o.f = e -/
def kSetF (K : PySem.W.Frag) (f : Str) (y : V) (N : Hp → Prop) (x : V) (H : Hp) : Prop := ∃ a C dx fs, x = .ref a ∧ H a = some (.ins C dx fs) ∧ Cls K C ∧ NoAttr K C f ∧ fs.length < 1000 ∧ N (upd H a (.ins C dx (putF f y fs)))
/-- {}, dict(d) -/
theorem g_dnew (k : ∀ p H', H p = none → Same H H' → H' p = some (.dK []) → Q (.ref p) H') : tDNewK σ H Q := fun p hp => k p _ hp (same_new hp) upd_same
def rDictA : List V → Hp → VK → Prop := fun xs H Q => ∃ (a : Addr) (kvs : List (L2.Key × V)), xs = [.ref a] ∧ L2.Rd H a (.dK kvs) ∧ ∀ p, H p = none → Q (.ref p) (upd H p (.dK kvs))
theorem call_dictA {X : Cx} : CallR X (.type "dict") rDictA := call_dictD
theorem g_dict {kvs : List (L2.Key × V)} (h : H a = some (.dK kvs)) (k : ∀ p H', H p = none → Same H H' → H' p = some (.dK kvs) → Q (.ref p) H') : rDictA [.ref a] H Q := ⟨a, kvs, rfl, .inl h, fun p hp => k p _ hp (same_new hp) upd_same⟩
/-- d[k] = v -/
theorem g_setD {kvs : List (L2.Key × V)} {z : Str} {N : Hp → Prop} (h : H a = some (.dK kvs)) (hl : kvs.length < 100000) (k : ∀ H', Mv H a H' → H' a = some (.dK (putK kvs (.inr z) v)) → N H') : rSetD (.ref a) (.str z) v H N :=
  ⟨a, _, rfl, DPut.k (k := .inr z) h (szl hl), k _ mv_upd upd_same⟩
/-- d[k] -/
def kDGet (ty : TE) (σ : L2.St) (Q : VK) (x : V) (H1 : Hp) : Prop := ty σ H1 fun y H2 => ∃ a v, x = .ref a ∧ DGet H2 a y (some v) ∧ Q v H2
theorem g_dget {td ty : TE} (h : td σ H (kDGet ty σ Q)) : tDGet td ty σ H Q := h
/-- for x in d, the dict locked -/
theorem g_lock {t : TS} {nx bk ct : L2.St → Hp → Prop} {rt : VK} {kvs : List (L2.Key × V)} {d : Addr} (h : H d = some (.dK kvs)) (k : ∀ od, t ⟨fun σ' H' => H' d = some (.frz od (.dK kvs)) ∧ nx σ' (upd H' d (.dK kvs)), fun v H' => H' d = some (.frz od (.dK kvs)) ∧ rt v (upd H' d (.dK kvs)), fun σ' H' => H' d = some (.frz od (.dK kvs)) ∧ bk σ' (upd H' d (.dK kvs)), fun σ' H' => H' d = some (.frz od (.dK kvs)) ∧ ct σ' (upd H' d (.dK kvs))⟩ σ (upd H d (.frz od (.dK kvs)))) : tLock t ⟨nx, rt, bk, ct⟩ σ H :=
  ⟨d, .dK kvs, h, True.intro, k⟩
def kForK (g : TG) (tb : TS) (D : Ends) (σ : L2.St) (x : V) (H : Hp) : Prop := ∃ d o, x = .ref d ∧ ((∃ kvs, H d = some (.frz o (.dK kvs)) ∧ ∃ W : Nat → Nat → L2.St → Hp → Prop, (∃ m, W 0 m σ H) ∧ ∀ i m σ H, W i m σ H →
  ((Itk d o kvs).stop i H ∧ D.nx σ H) ∨ ((Itk d o kvs).go i H ∧ ∃ N : L2.St → Hp → Prop, (∀ σ' H', N σ' H' → ∃ m', m' < m ∧ W (i + 1) m' σ' H') ∧ ∀ x H', (Itk d o kvs).yld i H x H' → g x σ H' fun σ2 H2 => tb { D with nx := N, ct := N, bk := D.nx } σ2 H2)) ∨
  ∃ kvs, H d = some (.frz o (.dT kvs)) ∧ ∃ W : Nat → Nat → L2.St → Hp → Prop, (∃ m, W 0 m σ H) ∧ ∀ i m σ H, W i m σ H →
  ((Itkt d o kvs).stop i H ∧ D.nx σ H) ∨ ((Itkt d o kvs).go i H ∧ ∃ N : L2.St → Hp → Prop, (∀ σ' H', N σ' H' → ∃ m', m' < m ∧ W (i + 1) m' σ' H') ∧ ∀ x H', (Itkt d o kvs).yld i H x H' → g x σ H' fun σ2 H2 => tb { D with nx := N, ct := N, bk := D.nx } σ2 H2))
theorem g_forK {D : Ends} {g : TG} {tb : TS} (h : te σ H (kForK g tb D σ)) : tFor (iKeys te) g tb D σ H := h
theorem g_kForK {g : TG} {tb : TS} {nx bk ct : L2.St → Hp → Prop} {rt : VK} {d : Addr} {o : Obj} {kvs : List (L2.Key × V)} (hd : H d = some (.frz o (.dK kvs))) (Pv : Nat → L2.St → Hp → Prop) (h0 : Pv 0 σ H) (hl : ∀ i σ' H', Pv i σ' H' → H' d = some (.frz o (.dK kvs)))
    (hs : ∀ i k v σ' H', kvs[i]? = some (k, v) → Pv i σ' H' → g (kV k) σ' H' fun σ2 H2 => tb ⟨Pv (i + 1), rt, nx, Pv (i + 1)⟩ σ2 H2) (he : ∀ σ' H', Pv kvs.length σ' H' → nx σ' H') : kForK g tb ⟨nx, rt, bk, ct⟩ σ (.ref d) H := by
  refine ⟨d, o, rfl, .inl ⟨kvs, hd, fun i m σ H => m = kvs.length - i ∧ i ≤ kvs.length ∧ Pv i σ H, ⟨kvs.length, by simp, Nat.zero_le _, h0⟩, ?_⟩⟩
  rintro i m σ H ⟨rfl, hi, P⟩
  have q := hl i σ H P
  by_cases hlt : i < kvs.length
  · refine .inr ⟨⟨q, hlt⟩, Pv (i + 1), fun σ' H' p' => ⟨kvs.length - (i + 1), by omega, rfl, hlt, p'⟩, fun x H' y => ?_⟩
    obtain ⟨e, k, v, hk, ex⟩ := y
    subst e
    subst ex
    exact hs i k v σ _ hk P
  · have e : i = kvs.length := by omega
    subst e
    exact .inl ⟨⟨q, Nat.le_refl _⟩, he σ H P⟩
/-- sorted(d), list(d) -/
def rSortedD : List V → Hp → VK → Prop := fun xs H Q => ∃ (a : Addr) (kvs : List (L2.Key × V)) (ks : List Str), xs = [.ref a] ∧ L2.Rd H a (.dK kvs) ∧ kvs.map (·.1) = ks.map Sum.inr ∧ ks.length < 64 ∧ ∀ ys p, ys.Perm ks → sortedS ys = true → H p = none → Q (.ref p) (upd H p (.lst (ys.map V.str)))
theorem call_sortedD' {X : Cx} (hc : X.calm = true) : CallR X (.builtin "sorted") rSortedD := call_sortedD hc
def rListD : List V → Hp → VK → Prop := fun xs H Q => ∃ (a : Addr) (kvs : List (L2.Key × V)), xs = [.ref a] ∧ L2.Rd H a (.dK kvs) ∧ ∀ p, H p = none → Q (.ref p) (upd H p (.lst (kvs.map fun kv => kV kv.1)))
theorem call_listD' {X : Cx} (hc : X.calm = true) : CallR X (.type "list") rListD := call_listD hc
/-- xs.pop(), xs.clear() -/
def kPop (K : PySem.W.Frag) (Q : VK) (x : V) (H : Hp) : Prop := tyV K "list" x H ∧ rPop x [] H Q
theorem g_pop (h : ta σ H (kPop K Q)) : tBM0 K "list" rPop ta σ H Q := h
theorem g_kPop {y : V} (h : H p = some (.lst (xs ++ [y]))) (k : ∀ H', Mv H p H' → H' p = some (.lst xs) → Q y H') : kPop K Q (.ref p) H :=
  ⟨.inl ⟨rfl, _, SqL.of h⟩, p, xs ++ [y], y, rfl, rfl, h, by simp, by rw [List.dropLast_concat]; exact k _ mv_upd upd_same⟩
def kClear (K : PySem.W.Frag) (Q : VK) (x : V) (H : Hp) : Prop := tyV K "list" x H ∧ rClear x [] H Q
theorem g_clear (h : ta σ H (kClear K Q)) : tBM0 K "list" rClear ta σ H Q := h
theorem g_kClear (h : H p = some (.lst xs)) (k : ∀ H', Mv H p H' → H' p = some (.lst []) → Q .non H') : kClear K Q (.ref p) H :=
  ⟨.inl ⟨rfl, _, SqL.of h⟩, p, xs, rfl, rfl, h, k _ mv_upd upd_same⟩
theorem g_fldS {f : Str} {nx bk ct : L2.St → Hp → Prop} {rt : VK} {tv : TE} (h : tv σ H fun y H1 => ta σ H1 fun x H2 => kSetF K f y (nx σ) x H2) : sFld K ta tv f ⟨nx, rt, bk, ct⟩ σ H := h
theorem g_kSetF {f : Str} {y : V} {N : Hp → Prop} {C dx : Addr} {fs : List (Str × V)} (h : H a = some (.ins C dx fs)) (c : Cls K C) (n : NoAttr K C f) (hl : fs.length < 1000) (k : ∀ H', Mv H a H' → H' a = some (.ins C dx (putF f y fs)) → N H') : kSetF K f y N (.ref a) H :=
  ⟨a, C, dx, fs, rfl, h, c, n, hl, k _ mv_upd upd_same⟩
def kDN (y : V) (Q : VK) (x : V) (H : Hp) : Prop := ∃ a o, x = .ref a ∧ DGet H a y o ∧ Q (.bl (!o.isSome)) H
theorem g_dnotin {ty td : TE} (h : ty σ H fun y H1 => td σ H1 (kDN y Q)) : tDNotIn ty td σ H Q := h
theorem g_kDN {kvs : List (L2.Key × V)} {z : Str} (h : H a = some (.dK kvs)) (k : Q (.bl (!(valV kvs (.inr z)).isSome)) H) : kDN (.str z) Q (.ref a) H := ⟨a, _, rfl, DGet.k (k := .inr z) h, k⟩
def kDG (a : Addr) (Q : VK) (y : V) (H2 : Hp) : Prop := ∃ v, DGet H2 a y (some v) ∧ Q v H2
theorem g_kDGet {ty : TE} (h : ty σ H (kDG a Q)) : kDGet ty σ Q (.ref a) H := by
  show ty σ H fun y H2 => ∃ a' v, V.ref a = .ref a' ∧ DGet H2 a' y (some v) ∧ Q v H2
  have e : (fun (y : V) (H2 : Hp) => ∃ a' v, V.ref a = .ref a' ∧ DGet H2 a' y (some v) ∧ Q v H2) = kDG a Q := by
    funext y H2
    refine propext ⟨fun ⟨a', v, e, g, q⟩ => ?_, fun ⟨v, g, q⟩ => ⟨a, v, rfl, g, q⟩⟩
    cases e
    exact ⟨v, g, q⟩
  rw [e]
  exact h
theorem g_kDG {kvs : List (L2.Key × V)} {z : Str} (h : L2.Rd H a (.dK kvs)) (hv : valV kvs (.inr z) = some v) (k : Q v H) : kDG a Q (.str z) H := ⟨v, .inl ⟨kvs, .inr z, h, rfl, hv.symm⟩, k⟩
def kDGet2 (ty tx : TE) (σ : L2.St) (Q : VK) (x : V) (H1 : Hp) : Prop := ∃ a, x = .ref a ∧ IsD H1 a ∧ ty σ H1 fun y H2 => tx σ H2 fun z H3 => ∃ o, DGet H3 a y o ∧ Q (o.getD z) H3
theorem un1 {n : Nat} (h : n + 64 < cLine) : n + 1 < cLine := by omega
theorem un0 {n : Nat} (h : n + 64 < cLine) : n < cLine := by omega
/-- one way to do d.get(k, x) -/
def kDG2 (a : Addr) (tx : TE) (σ : L2.St) (Q : VK) (y : V) (H2 : Hp) : Prop := tx σ H2 fun z H3 => ∃ o, DGet H3 a y o ∧ Q (o.getD z) H3
def kDG3 (a : Addr) (y : V) (Q : VK) (z : V) (H3 : Hp) : Prop := ∃ o, DGet H3 a y o ∧ Q (o.getD z) H3
theorem g_kDGet2 {ty tx : TE} {kvs : List (L2.Key × V)} (h : L2.Rd H a (.dK kvs)) (k : ty σ H (kDG2 a tx σ Q)) : kDGet2 ty tx σ Q (.ref a) H := ⟨a, rfl, .inl ⟨_, h⟩, k⟩
theorem g_kDG2 {tx : TE} {y : V} (h : tx σ H (kDG3 a y Q)) : kDG2 a tx σ Q y H := h
theorem g_kDG3 {kvs : List (L2.Key × V)} {z : Str} {x : V} (h : L2.Rd H a (.dK kvs)) (k : Q ((valV kvs (.inr z)).getD x) H) : kDG3 a (.str z) Q x H := ⟨_, .inl ⟨kvs, .inr z, h, rfl, rfl⟩, k⟩
theorem g_dget2 {td ty tx : TE} (h : td σ H (kDGet2 ty tx σ Q)) : tDGet2 td ty tx σ H Q := h
end
end Wk
/-! texts: repeated, replaced; a reversed list in a comprehension -/
namespace Wk
open PySem PySem.Spec PyProof.Rows L2
def rMulS : R2 := fun x y H Q => ∃ z n, x = .str z ∧ y = .int n ∧ PySem.MulOk z n ∧ Q (.str (Txt.mul z n)) H
theorem op_mulS {X : Cx} : OpR X (binaryOp .Mult) rMulS := by
  intro pins s σ H x y v u Q I rx ry h
  obtain ⟨z, n, rfl, rfl, hok, q⟩ := h
  obtain ⟨t, rfl⟩ := rx
  obtain ⟨t2, rfl⟩ := ry
  exact PySem.SB.mul hok fun t' k => ⟨.str _, H, I.tok k, ⟨t', rfl⟩, q⟩
/-- a def that replaces a written text -/
theorem DefAt.okT {P : Program} {w : World} {K : PySem.W.Frag} {mg : Str → Option Value} {base : Heap} {x : Str} {st : Stmt} {N ps : List Str} {k : Nat} {sp : Sp} (D : DefAt K mg x st) (S : FnScope N ps (defScope st)) (hb : HB x x st ps) (hnc : ∀ y ∈ (defScope st).names, y.2 ≠ .cell) (hps : 1 ≤ ps.length) (len : ∀ vs H Q E, sp vs H Q E → vs.length = ps.length)
    (body : ∀ (f : Addr) (cdv : Value) (A : Around) (outer : List Env) (s : Shared) (H : Hp) (vs : List V) (Q : VK) (E : XK), Room k (A.deeper (envOfC x (defScope st) s.heap.objs.size f cdv)) → sp vs H Q E →
      ∃ t, PSsT (cxOf CX0 P w K mg base N x (defScope st) f cdv A outer s H E) (defBody st) t ∧ t ⟨fun _ H' => Q .non H', Q, fun _ _ => False, fun _ _ => False⟩ (start N vs) H) : Rd P w K mg base CX0 (k + 1) x ps sp := by
  obtain ⟨f, fd, F, g⟩ := D
  obtain ⟨oc, od, kV, doc, pm, an, cdv, ct, osl, rfl, lk, hcd⟩ := F.ex
  exact ⟨f, _, fn_ofT lk hcd S hnc hps len fun A outer s H vs Q E hr h => body f cdv A outer s H vs Q E hr h, g, F.kp, F.binds hb⟩
section
variable {K : PySem.W.Frag} {σ : L2.St} {H : Hp} {Q : VK} {te : TE} {p : Addr} {xs : List V} {vs : List Nat} {j : Nat}
theorem g_kMulS {z : Str} {n : Int} (h : PySem.MulOk z n) (k : Q (.str (Txt.mul z n)) H) : rMulS (.str z) (.int n) H Q := ⟨z, n, rfl, rfl, h, k⟩
/-- [.. for x in reversed(xs)] -/
def kLcV (K : PySem.W.Frag) (g : TG) (tt : TT) (te : TE) (vs : List Nat) (σ : L2.St) (Q : VK) (ws : List V) (H : Hp) : Prop := ∃ (a : Addr) (xs : List V), ws = [.ref a] ∧ SqL K H a xs ∧ kLc (Itv K a xs.length) g tt te vs σ Q H
theorem g_lcV {g : TG} {tt : TT} {ta : TA} (h : ta σ H (kLcV K g tt te vs σ Q)) : tLc (iRev K ta) g tt te vs σ H Q := h
theorem g_kLcV (hx : SqL K H p xs) (hn : xs.length ≤ 50000) (hw : ∀ x, wipe ((wipe σ vs).set j (some x)) vs = wipe σ vs)
    (he : ∀ (x : V) H' (Q' : VK), Same H H' → Q' x H' → te ((wipe σ vs).set j (some x)) H' Q')
    (k : ∀ q H', H q = none → Same H H' → H' q = some (.lst xs.reverse) → Q (.ref q) H') : kLcV K (gName j) tYes te vs σ Q [.ref p] H := by
  refine ⟨p, xs, rfl, hx, fun D hD => ⟨fun i m H' => m = xs.length - i ∧ i ≤ xs.length ∧ Same H H' ∧ H' D = some (.lst (xs.reverse.take i)), ⟨xs.length, by simp, Nat.zero_le _, same_new hD, by rw [List.take_zero]; exact upd_same⟩, ?_⟩⟩
  rintro i m H' ⟨rfl, hi, s, e⟩
  have hx' : SqL K H' p xs := seqL s hx
  by_cases hlt : i < xs.length
  · have hg : xs[xs.length - 1 - i]? = some (xs[xs.length - 1 - i]'(by omega)) := List.getElem?_eq_getElem _
    have hr : xs.reverse[i]? = some (xs[xs.length - 1 - i]'(by omega)) := by rw [List.getElem?_reverse hlt, hg]
    refine .inr ⟨⟨hlt, xs, _, hx', hg⟩, fun H2 => i + 1 ≤ xs.length ∧ Same H H2 ∧ H2 D = some (.lst (xs.reverse.take (i + 1))), fun H2 q => ⟨xs.length - (i + 1), by omega, rfl, q⟩, fun x H2 y => ?_⟩
    obtain ⟨e2, y⟩ := y
    subst e2
    have ex := y xs hx'
    rw [hg] at ex
    obtain rfl := Option.some.inj ex
    show wipe ((wipe σ vs).set j (some _)) vs = wipe σ vs ∧ te ((wipe σ vs).set j (some _)) H2 _
    refine ⟨hw _, he _ H2 _ s ⟨_, e, szl (by rw [List.length_take]; omega), hlt, Same.mutd s mv_upd hD, ?_⟩⟩
    rw [upd_same, List.take_add_one, hr] <;> rfl
  · have ei : i = xs.length := by omega
    subst ei
    refine .inl ⟨Nat.le_refl _, k D H' hD s ?_⟩
    rw [e, List.take_of_length_le (by rw [List.length_reverse]; exact Nat.le_refl _)]
/-- s.upper(), s.replace(written, written) -/
def kUp (Q : VK) (x : V) (H : Hp) : Prop := (∃ a, x = .str a) ∧ ∃ a, x = .str a ∧ ([] : List V) = [] ∧ a.length ≤ 5592405 ∧ Q (.str (Txt.upper a)) H
theorem g_upper {to : TE} (h : to σ H (kUp Q)) : tM0 (fun x xs H Q => ∃ a, x = .str a ∧ xs = [] ∧ a.length ≤ 5592405 ∧ Q (.str (Txt.upper a)) H) to σ H Q := h
theorem g_kUp {a : Str} (hl : a.length ≤ 5592405) (k : Q (.str (Txt.upper a)) H) : kUp Q (.str a) H := ⟨⟨a, rfl⟩, a, rfl, rfl, hl, k⟩
def kRepl (y z : Str) (Q : VK) (v : V) (H1 : Hp) : Prop := ∃ x, v = .str x ∧ x.length + (x.length + 1) * z.length ≤ 16777216 ∧ Q (.str (Txt.replace x y z)) H1
theorem g_repl {to : TE} {y z : Str} (h : to σ H (kRepl y z Q)) : CwR.tReplC to y z σ H Q := h
theorem g_kRepl {x y z : Str} (hl : x.length + (x.length + 1) * z.length ≤ 16777216) (k : Q (.str (Txt.replace x y z)) H) : kRepl y z Q (.str x) H := ⟨x, rfl, hl, k⟩
/-- x not in xs -/
theorem g_notInL {x : V} (h : SqL K H p xs) (fx : flatV x = true) (fs : xs.all flatV = true) (k : Q (.bl (!inV x xs)) H) : rIn K true x (.ref p) H Q := ⟨p, xs, rfl, .inl h, fx, fs, k⟩
end
end Wk
/-! lines as plain data: a first hold and pairs of a cut and the hold behind it -/
namespace Cut
section
variable {α : Type}
def at_ (v : α) : List (Int × α) → Int → α
  | [], _ => v
  | (c, h) :: r, x => at_ (if c ≤ x then h else v) r x
def dup (c : Int) : List (Int × α) → Bool
  | [] => false
  | (d, _) :: _ => decide (d = c)
def keepB (eq : α → α → Bool) (v : α) : List (Int × α) → List (Int × α)
  | [] => []
  | (c, h) :: r => if dup c r = true then keepB eq v r else if eq h v = true then keepB eq v r else (c, h) :: keepB eq h r
abbrev Srt (ps : List (Int × α)) : Prop := ps.Pairwise fun p q => p.1 ≤ q.1
abbrev Ris (ps : List (Int × α)) : Prop := ps.Pairwise fun p q => p.1 < q.1
def Nrm (v : α) : List (Int × α) → Prop
  | [] => True
  | (_, h) :: r => h ≠ v ∧ Nrm h r
abbrev cuts (ps : List (Int × α)) : List Int := ps.map (·.1)
abbrev holds (v : α) (ps : List (Int × α)) : List α := v :: ps.map (·.2)
theorem hold_at {v : α} {ps : List (Int × α)} {i : Nat} {c : Int} {h : α} (hp : ps[i]? = some (c, h)) : (holds v ps)[i + 1]? = some h := by
  show (ps.map (·.2))[i]? = some h
  rw [List.getElem?_map, hp] <;> rfl
theorem holds_app {v : α} {ps : List (Int × α)} {c : Int} {h : α} : holds v (ps ++ [(c, h)]) = holds v ps ++ [h] := by simp [holds]
theorem cuts_app {ps : List (Int × α)} {c : Int} {h : α} : cuts (ps ++ [(c, h)]) = cuts ps ++ [c] := by simp [cuts]
theorem drop_at {ps : List (Int × α)} {i : Nat} {p : Int × α} (hp : ps[i]? = some p) : ps.drop i = p :: ps.drop (i + 1) := by
  obtain ⟨hi, e⟩ := List.getElem?_eq_some_iff.mp hp
  rw [List.drop_eq_getElem_cons hi, e]
theorem last_hold {v last : α} {acc : List (Int × α)} (h : (holds v acc)[acc.length]? = some last) : holds v acc = (holds v acc).dropLast ++ [last] := by
  have h1 := List.dropLast_concat_getLast (List.cons_ne_nil v (acc.map (·.2)))
  have h2 : (holds v acc).getLast (List.cons_ne_nil _ _) = last := by
    rw [List.getLast_eq_getElem]
    have h3 : (holds v acc).length - 1 = acc.length := by simp [holds]
    rw [List.getElem?_eq_getElem (by simp [holds])] at h
    have h4 := Option.some.inj h
    simp only [h3]
    exact h4
  rw [h2] at h1
  exact h1.symm
theorem Ris.srt {ps : List (Int × α)} (h : Ris ps) : Srt ps := h.imp fun {a b} x => by omega
theorem at_lo {ps : List (Int × α)} {x : Int} : ∀ {v : α}, (∀ p ∈ ps, x < p.1) → at_ v ps x = v := by
  induction ps with
  | nil => intro v _; rfl
  | cons p r ih =>
    intro v h
    obtain ⟨c, g⟩ := p
    have hc : x < c := h (c, g) List.mem_cons_self
    show at_ (if c ≤ x then g else v) r x = v
    rw [if_neg (by omega)]
    exact ih fun p hp => h p (List.mem_cons_of_mem _ hp)
theorem at_cons {v : α} {c : Int} {h : α} {r : List (Int × α)} {x : Int} : at_ v ((c, h) :: r) x = at_ (if c ≤ x then h else v) r x := rfl
theorem at_append {v : α} {ps qs : List (Int × α)} {x : Int} : at_ v (ps ++ qs) x = at_ (at_ v ps x) qs x := by
  induction ps generalizing v with
  | nil => rfl
  | cons p r ih =>
    obtain ⟨c, h⟩ := p
    exact ih
theorem at_hi {v : α} {ps : List (Int × α)} {c : Int} {h : α} {x : Int} (hc : c ≤ x) : at_ v (ps ++ [(c, h)]) x = h := by
  rw [at_append, at_cons, if_pos hc]
  rfl
theorem keepB_sub (eq : α → α → Bool) : ∀ (ps : List (Int × α)) (v : α), (keepB eq v ps).Sublist ps
  | [], _ => List.Sublist.slnil
  | (c, h) :: r, v => by
    unfold keepB
    split
    · exact (keepB_sub eq r v).cons _
    · split
      · exact (keepB_sub eq r v).cons _
      · exact (keepB_sub eq r h).cons₂ _
theorem keepB_mem {eq : α → α → Bool} {ps : List (Int × α)} {v : α} {p : Int × α} (h : p ∈ keepB eq v ps) : p ∈ ps := (keepB_sub eq ps v).subset h
theorem keepB_len {eq : α → α → Bool} {ps : List (Int × α)} {v : α} : (keepB eq v ps).length ≤ ps.length := (keepB_sub eq ps v).length_le
theorem keepB_ris {eq : α → α → Bool} : ∀ {ps : List (Int × α)} {v : α}, Srt ps → Ris (keepB eq v ps)
  | [], _, _ => List.Pairwise.nil
  | (c, h) :: r, v, hs => by
    obtain ⟨h1, h2⟩ := List.pairwise_cons.mp hs
    unfold keepB
    split
    · exact keepB_ris h2
    · split
      · exact keepB_ris h2
      · refine List.pairwise_cons.mpr ⟨fun p hp => ?_, keepB_ris h2⟩
        rename_i hd _
        have hp' := keepB_mem hp
        cases r with
        | nil => cases hp'
        | cons q r' =>
          have hq : q.1 ≠ c := fun e => hd (by show decide (q.1 = c) = true; exact decide_eq_true e)
          have hq1 : c ≤ q.1 := h1 q List.mem_cons_self
          show c < p.1
          rcases List.mem_cons.mp hp' with e | hr
          · rw [e]; omega
          · have := (List.pairwise_cons.mp h2).1 p hr
            omega
theorem at_dup {v : α} {c : Int} {h : α} {r : List (Int × α)} (hd : dup c r = true) (x : Int) : at_ v ((c, h) :: r) x = at_ v r x := by
  cases r with
  | nil => cases hd
  | cons q r =>
    obtain ⟨d, g⟩ := q
    have e : d = c := of_decide_eq_true hd
    subst e
    rw [at_cons, at_cons, at_cons]
    by_cases hx : d ≤ x
    · rw [if_pos hx, if_pos hx]
    · rw [if_neg hx, if_neg hx, if_neg hx]
/-- the one form does what was told -/
theorem at_keepB {eq : α → α → Bool} (heq : ∀ a b, eq a b = true → a = b) : ∀ {ps : List (Int × α)} {v : α}, Srt ps → ∀ x, at_ v (keepB eq v ps) x = at_ v ps x
  | [], _, _, _ => rfl
  | (c, h) :: r, v, hs, x => by
    obtain ⟨h1, h2⟩ := List.pairwise_cons.mp hs
    unfold keepB
    split
    · rename_i hd
      rw [at_dup hd]
      exact at_keepB heq h2 x
    · split
      · rename_i he
        have e := heq _ _ he
        subst e
        rw [at_keepB heq h2 x, at_cons]
        split <;> rfl
      · rw [at_cons, at_cons]
        by_cases hx : c ≤ x
        · rw [if_pos hx]
          exact at_keepB heq h2 x
        · rw [if_neg hx, at_lo, at_lo]
          · intro p hp
            have : c ≤ p.1 := h1 p hp
            omega
          · intro p hp
            have : c ≤ p.1 := h1 p (keepB_mem hp)
            omega
theorem keepB_nrm {eq : α → α → Bool} (heq : ∀ a, eq a a = true) : ∀ (ps : List (Int × α)) (v : α), Nrm v (keepB eq v ps)
  | [], _ => True.intro
  | (c, h) :: r, v => by
    unfold keepB
    split
    · exact keepB_nrm heq r v
    · split
      · exact keepB_nrm heq r v
      · rename_i hn
        refine ⟨fun e => hn ?_, keepB_nrm heq r h⟩
        rw [e]
        exact heq v
theorem at_at {c : Int} {h : α} {r : List (Int × α)} {v : α} (hr : Ris ((c, h) :: r)) : at_ v ((c, h) :: r) c = h := by
  rw [at_cons, if_pos (Int.le_refl c)]
  exact at_lo fun p hp => (List.pairwise_cons.mp hr).1 p hp
/-- two lines in the one form that hold alike everywhere are alike -/
theorem uniq : ∀ {ps qs : List (Int × α)} {v : α}, Ris ps → Nrm v ps → Ris qs → Nrm v qs → (∀ x, at_ v ps x = at_ v qs x) → ps = qs
  | [], [], _, _, _, _, _, _ => rfl
  | [], (c, h) :: r, v, _, _, hr, hn, e => by
    have q := e c
    rw [at_at hr] at q
    exact absurd q.symm hn.1
  | (c, h) :: r, [], v, hr, hn, _, _, e => by
    have q := e c
    rw [at_at hr] at q
    exact absurd q hn.1
  | (c, h) :: r, (d, g) :: s, v, hr, hn, hr', hn', e => by
    have hcd : c = d := by
      rcases Int.lt_trichotomy c d with z | z | z
      · have q := e c
        rw [at_at hr, at_lo] at q
        · exact absurd q hn.1
        · intro p hp
          rcases List.mem_cons.mp hp with y | y
          · rw [y]; exact z
          · have := (List.pairwise_cons.mp hr').1 p y
            show c < p.1
            have : d < p.1 := this
            omega
      · exact z
      · have q := e d
        rw [at_at hr', at_lo] at q
        · exact absurd q.symm hn'.1
        · intro p hp
          rcases List.mem_cons.mp hp with y | y
          · rw [y]; exact z
          · have : c < p.1 := (List.pairwise_cons.mp hr).1 p y
            omega
    subst hcd
    have q := e c
    rw [at_at hr, at_at hr'] at q
    subst q
    have t : r = s := uniq (v := h) (List.pairwise_cons.mp hr).2 hn.2 (List.pairwise_cons.mp hr').2 hn'.2 fun x => by
      by_cases hx : c ≤ x
      · have z := e x
        rw [at_cons, at_cons, if_pos hx] at z
        exact z
      · rw [at_lo, at_lo]
        · intro p hp
          have : c < p.1 := (List.pairwise_cons.mp hr').1 p hp
          omega
        · intro p hp
          have : c < p.1 := (List.pairwise_cons.mp hr).1 p hp
          omega
    rw [t]
theorem low (ps : List (Int × α)) (b : Int) : ∃ x, x ≤ b ∧ ∀ p ∈ ps, x < p.1 := by
  induction ps with
  | nil => exact ⟨b, Int.le_refl b, fun _ h => nomatch h⟩
  | cons p r ih =>
    obtain ⟨x, h1, h2⟩ := ih
    refine ⟨min x (p.1 - 1), by omega, fun q hq => ?_⟩
    rcases List.mem_cons.mp hq with e | e
    · rw [e]; omega
    · have := h2 q e
      omega
theorem uniq' {ps qs : List (Int × α)} {v w : α} (hp : Ris ps) (np : Nrm v ps) (hq : Ris qs) (nq : Nrm w qs) (e : ∀ x, at_ v ps x = at_ w qs x) : v = w ∧ ps = qs := by
  have hv : v = w := by
    obtain ⟨x, _, h1⟩ := low (ps ++ qs) 0
    have q := e x
    rw [at_lo fun p hp => h1 p (List.mem_append_left _ hp), at_lo fun p hp => h1 p (List.mem_append_right _ hp)] at q
    exact q
  subst hv
  exact ⟨rfl, uniq hp np hq nq e⟩
/-- a line holds one of its holds -/
theorem at_mem {v : α} {ps : List (Int × α)} {x : Int} : at_ v ps x ∈ holds v ps := by
  induction ps generalizing v with
  | nil => exact List.mem_cons_self
  | cons p r ih =>
    obtain ⟨c, h⟩ := p
    rw [at_cons]
    have q := ih (v := if c ≤ x then h else v)
    rcases List.mem_cons.mp q with e | e
    · rw [e]
      split
      · exact List.mem_cons_of_mem _ List.mem_cons_self
      · exact List.mem_cons_self
    · exact List.mem_cons_of_mem _ (List.mem_cons_of_mem _ e)
/-- between two places with no cut a line holds one thing -/
theorem at_steps {ps : List (Int × α)} {v : α} {x y : Int} (hxy : x ≤ y) (h : ∀ p ∈ ps, p.1 ≤ x ∨ y < p.1) : at_ v ps x = at_ v ps y := by
  induction ps generalizing v with
  | nil => rfl
  | cons p r ih =>
    obtain ⟨c, g⟩ := p
    rw [at_cons, at_cons]
    have hc : c ≤ x ∨ y < c := h (c, g) List.mem_cons_self
    have e : (if c ≤ x then g else v) = (if c ≤ y then g else v) := by
      rcases hc with z | z
      · rw [if_pos z, if_pos (by omega)]
      · rw [if_neg (by omega), if_neg (by omega)]
    rw [e]
    exact ih fun p hp => h p (List.mem_cons_of_mem _ hp)
section
variable [DecidableEq α]
abbrev keep (v : α) (ps : List (Int × α)) : List (Int × α) := keepB (fun a b => decide (a = b)) v ps
theorem at_keep {ps : List (Int × α)} {v : α} (hs : Srt ps) (x : Int) : at_ v (keep v ps) x = at_ v ps x := at_keepB (fun _ _ h => of_decide_eq_true h) hs x
theorem keep_nrm (ps : List (Int × α)) (v : α) : Nrm v (keep v ps) := keepB_nrm (eq := fun a b => decide (a = b)) (fun a => by simp) ps v
theorem keep_ris {ps : List (Int × α)} {v : α} (hs : Srt ps) : Ris (keep v ps) := keepB_ris hs
/-- a function written down at edges -/
def walkE (f : Int → α) (v : α) : List Int → List (Int × α)
  | [] => []
  | e :: es => if f e = v then walkE f v es else (e, f e) :: walkE f (f e) es
theorem walkE_mem {f : Int → α} : ∀ {es : List Int} {v : α} {p : Int × α}, p ∈ walkE f v es → p.1 ∈ es ∧ p.2 = f p.1
  | [], _, _, h => nomatch h
  | e :: es, v, p, h => by
    unfold walkE at h
    split at h
    · exact ⟨List.mem_cons_of_mem _ (walkE_mem h).1, (walkE_mem h).2⟩
    · rcases List.mem_cons.mp h with z | z
      · rw [z]; exact ⟨List.mem_cons_self, rfl⟩
      · exact ⟨List.mem_cons_of_mem _ (walkE_mem z).1, (walkE_mem z).2⟩
theorem walkE_ris {f : Int → α} : ∀ {es : List Int} {v : α}, es.Pairwise (· < ·) → Ris (walkE f v es)
  | [], _, _ => List.Pairwise.nil
  | e :: es, v, h => by
    obtain ⟨h1, h2⟩ := List.pairwise_cons.mp h
    unfold walkE
    split
    · exact walkE_ris h2
    · exact List.pairwise_cons.mpr ⟨fun p hp => h1 _ (walkE_mem hp).1, walkE_ris h2⟩
theorem walkE_nrm {f : Int → α} : ∀ {es : List Int} {v : α}, Nrm v (walkE f v es)
  | [], _ => True.intro
  | e :: es, v => by
    unfold walkE
    split
    · exact walkE_nrm
    · exact ⟨by assumption, walkE_nrm⟩
abbrev StepsAt (f : Int → α) (es : List Int) : Prop := ∀ x y, x ≤ y → (∀ e ∈ es, e ≤ x ∨ y < e) → f x = f y
theorem walk_ge {f : Int → α} : ∀ {es : List Int} {v : α} {b : Int}, es.Pairwise (· < ·) → (∀ e ∈ es, b ≤ e) → f b = v → (∀ x y, b ≤ x → x ≤ y → (∀ e ∈ es, e ≤ x ∨ y < e) → f x = f y) → ∀ x, b ≤ x → at_ v (walkE f v es) x = f x
  | [], v, b, _, _, hv, hst, x, hx => by
    rw [← hv]
    exact hst b x (Int.le_refl b) hx fun _ h => nomatch h
  | e :: es, v, b, hp, hb, hv, hst, x, hx => by
    obtain ⟨h1, h2⟩ := List.pairwise_cons.mp hp
    have hbe := hb e List.mem_cons_self
    by_cases hxe : x < e
    · have q : f b = f x := hst b x (Int.le_refl b) hx fun e' he' => by
        rcases List.mem_cons.mp he' with z | z
        · right; omega
        · right
          have := h1 e' z
          omega
      rw [at_lo, ← hv, q]
      intro p hp'
      have := (walkE_mem hp').1
      rcases List.mem_cons.mp this with z | z
      · rw [z]; exact hxe
      · have := h1 _ z
        omega
    · have hst' : ∀ x y, e ≤ x → x ≤ y → (∀ e' ∈ es, e' ≤ x ∨ y < e') → f x = f y := fun x y h3 h4 h5 => hst x y (by omega) h4 fun e' he' => by
        rcases List.mem_cons.mp he' with z | z
        · left; omega
        · exact h5 e' z
      unfold walkE
      split
      · rename_i hfe
        exact walk_ge h2 (fun e' he' => by have := h1 e' he'; omega) hfe hst' x (by omega)
      · rw [at_cons, if_pos (by omega)]
        exact walk_ge h2 (fun e' he' => by have := h1 e' he'; omega) rfl hst' x (by omega)
theorem low' (es : List Int) (b : Int) : ∃ x, x ≤ b ∧ ∀ e ∈ es, x < e := by
  obtain ⟨x, h1, h2⟩ := low (es.map fun e => (e, ())) b
  exact ⟨x, h1, fun e he => h2 (e, ()) (List.mem_map.mpr ⟨e, he, rfl⟩)⟩
theorem at_walk {f : Int → α} {es : List Int} {v : α} (hp : es.Pairwise (· < ·)) (hlo : ∀ x, (∀ e ∈ es, x < e) → f x = v) (hst : StepsAt f es) (x : Int) : at_ v (walkE f v es) x = f x := by
  obtain ⟨b, h1, h2⟩ := low' es x
  exact walk_ge hp (fun e he => by have := h2 e he; omega) (hlo b h2) (fun x y _ h => hst x y h) x h1
/-- the master: a line in the one form is what its own doing tells, written down at any edges that have its cuts -/
theorem walk_is {f : Int → α} {es : List Int} {v w : α} {ps : List (Int × α)} (hp : es.Pairwise (· < ·)) (hlo : ∀ x, (∀ e ∈ es, x < e) → f x = w) (hst : StepsAt f es)
    (hr : Ris ps) (hn : Nrm v ps) (h : ∀ x, at_ v ps x = f x) : v = w ∧ ps = walkE f w es :=
  uniq' hr hn (walkE_ris hp) walkE_nrm fun x => (h x).trans (at_walk hp hlo hst x).symm
theorem keep_is {es : List Int} {v : α} {ps : List (Int × α)} (hp : es.Pairwise (· < ·)) (hm : ∀ k, k ∈ es ↔ k ∈ cuts ps) (hs : Srt ps) : keep v ps = walkE (at_ v ps) v es :=
  (walk_is (f := at_ v ps) (w := v) hp (fun x h => at_lo fun p hp' => h _ ((hm _).mpr (List.mem_map.mpr ⟨p, hp', rfl⟩))) (fun x y hxy h => at_steps hxy fun p hp' => h _ ((hm _).mpr (List.mem_map.mpr ⟨p, hp', rfl⟩)))
    (keep_ris hs) (keep_nrm ps v) (at_keep hs)).2
end
end
end Cut
/-! deeds on lines, as plain data -/
namespace Cut
section
variable {α : Type}
theorem at_congr {v : α} {ps : List (Int × α)} {x y : Int} (h : ∀ p ∈ ps, (p.1 ≤ x ↔ p.1 ≤ y)) : at_ v ps x = at_ v ps y := by
  induction ps generalizing v with
  | nil => rfl
  | cons p r ih =>
    obtain ⟨c, g⟩ := p
    rw [at_cons, at_cons]
    have e : (if c ≤ x then g else v) = (if c ≤ y then g else v) := by
      have := h (c, g) List.mem_cons_self
      by_cases q : c ≤ x
      · rw [if_pos q, if_pos (this.mp q)]
      · rw [if_neg q, if_neg fun z => q (this.mpr z)]
    rw [e]
    exact ih fun p hp => h p (List.mem_cons_of_mem _ hp)
theorem at_filter {b : Int × α → Bool} {v : α} {ps : List (Int × α)} {x : Int} (h : ∀ p ∈ ps, p.1 ≤ x → b p = true) : at_ v (ps.filter b) x = at_ v ps x := by
  induction ps generalizing v with
  | nil => rfl
  | cons p r ih =>
    obtain ⟨c, g⟩ := p
    rw [at_cons]
    have ih' := fun v => ih (v := v) fun p hp => h p (List.mem_cons_of_mem _ hp)
    cases hb : b (c, g) with
    | true => rw [List.filter_cons, if_pos hb, at_cons, ih']
    | false =>
      have q : ¬ c ≤ x := fun z => by have := h (c, g) List.mem_cons_self z; rw [hb] at this; cases this
      rw [List.filter_cons, hb, if_neg Bool.false_ne_true, if_neg q, ih']
theorem at_map {γ : Int → Int} {v : α} {ps : List (Int × α)} {x y : Int} (h : ∀ p ∈ ps, (γ p.1 ≤ x ↔ p.1 ≤ y)) : at_ v (ps.map fun p => (γ p.1, p.2)) x = at_ v ps y := by
  induction ps generalizing v with
  | nil => rfl
  | cons p r ih =>
    obtain ⟨c, g⟩ := p
    rw [List.map_cons, at_cons, at_cons]
    have e : (if γ c ≤ x then g else v) = (if c ≤ y then g else v) := by
      have := h (c, g) List.mem_cons_self
      by_cases q : γ c ≤ x
      · rw [if_pos q, if_pos (this.mp q)]
      · rw [if_neg q, if_neg fun z => q (this.mpr z)]
    rw [e]
    exact ih fun p hp => h p (List.mem_cons_of_mem _ hp)
/-- the pairs ahead of a place, those behind it -/
abbrev lo (x : Int) (ps : List (Int × α)) : List (Int × α) := ps.filter fun p => decide (p.1 < x)
abbrev hi (x : Int) (ps : List (Int × α)) : List (Int × α) := ps.filter fun p => decide (x < p.1)
theorem lo_lt {x : Int} {ps : List (Int × α)} {p : Int × α} (h : p ∈ lo x ps) : p.1 < x := of_decide_eq_true (List.mem_filter.mp h).2
theorem hi_lt {x : Int} {ps : List (Int × α)} {p : Int × α} (h : p ∈ hi x ps) : x < p.1 := of_decide_eq_true (List.mem_filter.mp h).2
theorem lo_mem {x : Int} {ps : List (Int × α)} {p : Int × α} (h : p ∈ lo x ps) : p ∈ ps := (List.mem_filter.mp h).1
theorem hi_mem {x : Int} {ps : List (Int × α)} {p : Int × α} (h : p ∈ hi x ps) : p ∈ ps := (List.mem_filter.mp h).1
theorem srt_filter {b : Int × α → Bool} {ps : List (Int × α)} (h : Srt ps) : Srt (ps.filter b) := h.sublist List.filter_sublist
theorem srt_split {ps : List (Int × α)} (h : Srt ps) (x : Int) : ps = (ps.filter fun p => decide (p.1 ≤ x)) ++ hi x ps := by
  induction ps with
  | nil => rfl
  | cons p r ih =>
    obtain ⟨h1, h2⟩ := List.pairwise_cons.mp h
    show p :: r = _
    by_cases q : p.1 ≤ x
    · rw [hi, List.filter_cons, if_pos (decide_eq_true q), List.filter_cons, if_neg (by simp; omega), List.cons_append]
      exact congrArg _ (ih h2)
    · have e1 : (p :: r).filter (fun p => decide (p.1 ≤ x)) = [] := List.filter_eq_nil_iff.mpr fun a ha => by
        rcases List.mem_cons.mp ha with z | z
        · rw [z]; simpa using q
        · have := h1 a z
          simp; omega
      have e2 : hi x (p :: r) = p :: r := List.filter_eq_self.mpr fun a ha => by
        rcases List.mem_cons.mp ha with z | z
        · rw [z]; simp; omega
        · have := h1 a z
          simp; omega
      rw [e1, e2, List.nil_append]
theorem at_lo_of {v : α} {ps : List (Int × α)} {s x : Int} (h : x < s) : at_ v (lo s ps) x = at_ v ps x := at_filter fun p _ hp => decide_eq_true (by omega)
theorem at_lo_all {v : α} {ps : List (Int × α)} {s x y : Int} (h1 : s - 1 ≤ x) (h2 : s - 1 ≤ y) : at_ v (lo s ps) x = at_ v (lo s ps) y := at_congr fun p hp => by
  have := lo_lt hp
  omega
theorem at_hi_of {v : α} {ps : List (Int × α)} {e x : Int} (h : Srt ps) (hx : e ≤ x) : at_ (at_ v ps e) (hi e ps) x = at_ v ps x := by
  have e1 : at_ v ps x = at_ (at_ v (ps.filter fun p => decide (p.1 ≤ e)) x) (hi e ps) x := by
    conv => lhs; rw [srt_split h e]
    exact at_append
  have e2 : at_ v (ps.filter fun p => decide (p.1 ≤ e)) x = at_ v (ps.filter fun p => decide (p.1 ≤ e)) e := at_congr fun p hp => by
    have : p.1 ≤ e := of_decide_eq_true (List.mem_filter.mp hp).2
    omega
  have e3 : at_ v (ps.filter fun p => decide (p.1 ≤ e)) e = at_ v ps e := at_filter fun p _ hp => decide_eq_true hp
  rw [e1, e2, e3]
theorem at_hi_lo {v : α} {ps : List (Int × α)} {e x : Int} (hx : x ≤ e) : at_ v (hi e ps) x = v := at_lo fun p hp => by
  have := hi_lt hp
  omega
/-- how many cuts are no further than x -/
theorem at_count {v : α} {ps : List (Int × α)} {x : Int} (h : Srt ps) : (holds v ps)[(cuts ps).countP fun c => decide (c ≤ x)]? = some (at_ v ps x) := by
  induction ps generalizing v with
  | nil => rfl
  | cons p r ih =>
    obtain ⟨c, g⟩ := p
    obtain ⟨h1, h2⟩ := List.pairwise_cons.mp h
    rw [at_cons]
    by_cases q : c ≤ x
    · rw [if_pos q, ← ih (v := g) h2]
      show (holds v ((c, g) :: r))[(c :: cuts r).countP fun c => decide (c ≤ x)]? = _
      rw [List.countP_cons_of_pos (by simpa using q)] <;> rfl
    · have e : (cuts ((c, g) :: r)).countP (fun c => decide (c ≤ x)) = 0 := List.countP_eq_zero.mpr fun a ha => by
        obtain ⟨b, hb, rfl⟩ := List.mem_map.mp ha
        rcases List.mem_cons.mp hb with z | z
        · rw [z]; simpa using q
        · have : c ≤ b.1 := h1 b z
          simp; omega
      rw [e, if_neg q]
      have e2 : at_ v r x = v := at_lo fun p hp => by
        have : c ≤ p.1 := h1 p hp
        omega
      rw [e2] <;> rfl
theorem cuts_lo {ps : List (Int × α)} {x : Int} : cuts (lo x ps) = (cuts ps).filter fun c => decide (c < x) := by
  show (ps.filter _).map _ = (ps.map _).filter _
  rw [List.filter_map] <;> rfl
theorem cuts_hi {ps : List (Int × α)} {x : Int} : cuts (hi x ps) = (cuts ps).filter fun c => decide (x < c) := by
  show (ps.filter _).map _ = (ps.map _).filter _
  rw [List.filter_map] <;> rfl
theorem lo_take {ps : List (Int × α)} (h : Srt ps) (x : Int) : lo x ps = ps.take (lo x ps).length := by
  have e := srt_split h (x - 1)
  have e1 : (ps.filter fun p => decide (p.1 ≤ x - 1)) = lo x ps := List.filter_congr fun p _ => by
    refine decide_eq_decide.mpr ?_
    omega
  rw [e1] at e
  have e3 : ps.take (lo x ps).length = (lo x ps ++ hi (x - 1) ps).take (lo x ps).length := congrArg (fun z => z.take (lo x ps).length) e
  rw [e3, List.take_left' rfl]
theorem hi_drop {ps : List (Int × α)} (h : Srt ps) (x : Int) : hi x ps = ps.drop (ps.length - (hi x ps).length) := by
  have e := srt_split h x
  have l := congrArg List.length e
  rw [List.length_append] at l
  have l2 : ps.length - (hi x ps).length = (ps.filter fun p => decide (p.1 ≤ x)).length := by omega
  rw [l2]
  have e3 : ps.drop (ps.filter fun p => decide (p.1 ≤ x)).length = ((ps.filter fun p => decide (p.1 ≤ x)) ++ hi x ps).drop (ps.filter fun p => decide (p.1 ≤ x)).length := congrArg (fun z => z.drop (ps.filter fun p => decide (p.1 ≤ x)).length) e
  rw [e3, List.drop_left' rfl]
end
section
variable {α : Type}
/-- deeds -/
inductive Deed (α : Type) where
  | put (s e : Option Int) (v : α)
  | opn (p n : Int)
  | cls (p n : Int)
  | str (t : Int)
def Deed.ok : Deed α → Prop
  | .put _ _ _ => True
  | .opn _ n => 0 ≤ n
  | .cls _ n => 0 ≤ n
  | .str t => 1 ≤ t
def inPut (s e : Option Int) (x : Int) : Bool := (match s with | none => true | some a => decide (a ≤ x)) && (match e with | none => true | some b => decide (x < b))
/-- what a deed makes of what a line holds -/
def back (o : α) (f : Int → α) : Deed α → Int → α
  | .put s e v, x => if inPut s e x = true then v else f x
  | .opn p n, x => if x < p then f x else if x < p + n then o else f (x - n)
  | .cls p n, x => if x < p then f x else f (x + n)
  | .str t, x => f (x / t)
theorem back_put {o : α} {f : Int → α} {s e : Option Int} {v : α} {x : Int} : back o f (.put s e v) x = if inPut s e x = true then v else f x := rfl
theorem back_opn {o : α} {f : Int → α} {p n x : Int} : back o f (.opn p n) x = if x < p then f x else if x < p + n then o else f (x - n) := rfl
theorem back_cls {o : α} {f : Int → α} {p n x : Int} : back o f (.cls p n) x = if x < p then f x else f (x + n) := rfl
def inL (s : Option Int) (x : Int) : Bool := match s with | none => true | some a => decide (a ≤ x)
def inR (e : Option Int) (x : Int) : Bool := match e with | none => true | some b => decide (x < b)
theorem in_LR {s e : Option Int} {x : Int} : inPut s e x = (inL s x && inR e x) := rfl
theorem in_nn {x : Int} : inPut none none x = true := rfl
theorem in_ns {b x : Int} : inPut none (some b) x = decide (x < b) := rfl
theorem in_sn {a x : Int} : inPut (some a) none x = decide (a ≤ x) := Bool.and_true _
theorem in_ss {a b x : Int} : inPut (some a) (some b) x = (decide (a ≤ x) && decide (x < b)) := rfl
/-- the pairs that the program tells behind a deed -/
def putPs (v : α) (ps : List (Int × α)) (w : α) : Option Int → Option Int → α × List (Int × α)
  | none, none => (w, [])
  | some s, none => (v, lo s ps ++ [(s, w)])
  | none, some e => (w, (e, at_ v ps e) :: hi e ps)
  | some s, some e => (v, lo s ps ++ (s, w) :: (e, at_ v ps e) :: hi e ps)
def opnPs (o v : α) (ps : List (Int × α)) (p n : Int) : List (Int × α) := lo p ps ++ (p, o) :: (p + n, at_ v ps p) :: (hi p ps).map fun q => (q.1 + n, q.2)
def clsPs (v : α) (ps : List (Int × α)) (p n : Int) : List (Int × α) := lo p ps ++ (p, at_ v ps (p + n)) :: (hi (p + n) ps).map fun q => (q.1 - n, q.2)
def strPs (ps : List (Int × α)) (t : Int) : List (Int × α) := ps.map fun q => (q.1 * t, q.2)
theorem srt_app {ps qs : List (Int × α)} {c : Int} {h : α} (h1 : Srt ps) (h2 : ∀ p ∈ ps, p.1 ≤ c) (h3 : Srt qs) (h4 : ∀ q ∈ qs, c ≤ q.1) : Srt (ps ++ (c, h) :: qs) :=
  List.pairwise_append.mpr ⟨h1, List.pairwise_cons.mpr ⟨h4, h3⟩, fun p hp q hq => by
    rcases List.mem_cons.mp hq with z | z
    · rw [z]; exact h2 p hp
    · have := h2 p hp
      have := h4 q z
      omega⟩
theorem srt_map {γ : Int → Int} {ps : List (Int × α)} (h : Srt ps) (m : ∀ a b, a ≤ b → γ a ≤ γ b) : Srt (ps.map fun q => (γ q.1, q.2)) := List.pairwise_map.mpr (h.imp fun {a b} x => m _ _ x)
theorem srt_putPs {v w : α} {ps : List (Int × α)} {s e : Option Int} (h : Srt ps) (hse : ∀ a b, s = some a → e = some b → a < b) : Srt (putPs v ps w s e).2 := by
  cases s with
  | none =>
    cases e with
    | none => exact List.Pairwise.nil
    | some b => exact List.pairwise_cons.mpr ⟨fun q hq => Int.le_of_lt (hi_lt hq), srt_filter h⟩
  | some a =>
    cases e with
    | none => exact srt_app (srt_filter h) (fun p hp => Int.le_of_lt (lo_lt hp)) List.Pairwise.nil (fun _ h => nomatch h)
    | some b =>
      have hab := hse a b rfl rfl
      refine srt_app (srt_filter h) (fun p hp => Int.le_of_lt (lo_lt hp)) (List.pairwise_cons.mpr ⟨fun q hq => Int.le_of_lt (hi_lt hq), srt_filter h⟩) fun q hq => ?_
      rcases List.mem_cons.mp hq with z | z
      · rw [z]; exact Int.le_of_lt hab
      · have := hi_lt z
        omega
theorem at_putPs {o v w : α} {ps : List (Int × α)} {s e : Option Int} (h : Srt ps) (hse : ∀ a b, s = some a → e = some b → a < b) (x : Int) : at_ (putPs v ps w s e).1 (putPs v ps w s e).2 x = back o (at_ v ps) (.put s e w) x := by
  rw [back_put]
  cases s with
  | none =>
    cases e with
    | none => simp [putPs, at_, in_nn]
    | some b =>
      rw [in_ns]
      show at_ w ((b, at_ v ps b) :: hi b ps) x = _
      rw [at_cons]
      by_cases q : b ≤ x
      · rw [if_pos q, at_hi_of h q, if_neg (by simp; omega)]
      · rw [if_neg q, at_hi_lo (by omega), if_pos (by simp; omega)]
  | some a =>
    cases e with
    | none =>
      rw [in_sn]
      show at_ v (lo a ps ++ [(a, w)]) x = _
      rw [at_append, at_cons]
      by_cases q : a ≤ x
      · rw [if_pos q, if_pos (by simpa using q)]
        rfl
      · rw [if_neg q, if_neg (by simpa using q)]
        exact at_lo_of (by omega)
    | some b =>
      have hab := hse a b rfl rfl
      rw [in_ss]
      show at_ v (lo a ps ++ (a, w) :: (b, at_ v ps b) :: hi b ps) x = _
      rw [at_append, at_cons, at_cons]
      by_cases q : a ≤ x
      · rw [if_pos q]
        by_cases q2 : b ≤ x
        · rw [if_pos q2, at_hi_of h q2, if_neg (by simp; omega)]
        · rw [if_neg q2, at_hi_lo (by omega), if_pos (by simp; omega)]
      · rw [if_neg q, if_neg (by omega), at_hi_lo (by omega), if_neg (by simp; omega)]
        exact at_lo_of (by omega)
theorem put_empty {o v w : α} {ps : List (Int × α)} {a b : Int} (h : b ≤ a) (x : Int) : at_ v ps x = back o (at_ v ps) (.put (some a) (some b) w) x := by
  rw [back_put, in_ss, if_neg (by simp; omega)]
theorem srt_opnPs {o v : α} {ps : List (Int × α)} {p n : Int} (h : Srt ps) (hn : 0 ≤ n) : Srt (opnPs o v ps p n) := by
  refine srt_app (srt_filter h) (fun p hp => Int.le_of_lt (lo_lt hp)) (List.pairwise_cons.mpr ⟨fun q hq => ?_, srt_map (γ := fun c => c + n) (srt_filter h) fun a b z => by omega⟩) fun q hq => ?_
  · obtain ⟨r, hr, rfl⟩ := List.mem_map.mp hq
    have := hi_lt hr
    show p + n ≤ r.1 + n
    omega
  · rcases List.mem_cons.mp hq with z | z
    · rw [z]
      show p ≤ p + n
      omega
    · obtain ⟨r, hr, rfl⟩ := List.mem_map.mp z
      have := hi_lt hr
      show p ≤ r.1 + n
      omega
theorem at_opnPs {o v : α} {ps : List (Int × α)} {p n : Int} (h : Srt ps) (hn : 0 ≤ n) (x : Int) : at_ v (opnPs o v ps p n) x = back o (at_ v ps) (.opn p n) x := by
  unfold opnPs
  rw [back_opn, at_append, at_cons, at_cons, at_map (γ := fun c => c + n) (y := x - n) fun q _ => by show q.1 + n ≤ x ↔ _; omega]
  by_cases q : x < p
  · rw [if_pos q, if_neg (by omega), if_neg (by omega), at_hi_lo (by omega)]
    exact at_lo_of q
  · rw [if_neg q, if_pos (by omega : p ≤ x)]
    by_cases q2 : x < p + n
    · rw [if_pos q2, if_neg (by omega), at_hi_lo (by omega)]
    · rw [if_neg q2, if_pos (by omega), at_hi_of h (by omega)]
theorem srt_clsPs {v : α} {ps : List (Int × α)} {p n : Int} (h : Srt ps) (hn : 0 ≤ n) : Srt (clsPs v ps p n) := by
  refine srt_app (srt_filter h) (fun p hp => Int.le_of_lt (lo_lt hp)) (srt_map (γ := fun c => c - n) (srt_filter h) fun a b z => by omega) fun q hq => ?_
  obtain ⟨r, hr, rfl⟩ := List.mem_map.mp hq
  have := hi_lt hr
  show p ≤ r.1 - n
  omega
theorem at_clsPs {o v : α} {ps : List (Int × α)} {p n : Int} (h : Srt ps) (hn : 0 ≤ n) (x : Int) : at_ v (clsPs v ps p n) x = back o (at_ v ps) (.cls p n) x := by
  unfold clsPs
  rw [back_cls, at_append, at_cons, at_map (γ := fun c => c - n) (y := x + n) fun q _ => by show q.1 - n ≤ x ↔ _; omega]
  by_cases q : x < p
  · rw [if_pos q, if_neg (by omega), at_hi_lo (by omega)]
    exact at_lo_of q
  · rw [if_neg q, if_pos (by omega : p ≤ x), at_hi_of h (by omega)]
theorem srt_strPs {ps : List (Int × α)} {t : Int} (h : Srt ps) (ht : 1 ≤ t) : Srt (strPs ps t) := srt_map (γ := fun c => c * t) h fun a b z => Int.mul_le_mul_of_nonneg_right z (by omega)
theorem at_strPs {o v : α} {ps : List (Int × α)} {t : Int} (ht : 1 ≤ t) (x : Int) : at_ v (strPs ps t) x = back o (at_ v ps) (.str t) x := at_map (γ := fun c => c * t) fun q _ => by
  show q.1 * t ≤ x ↔ _
  exact (Int.le_ediv_iff_mul_le (by omega)).symm
/-! lengths, what is held -/
theorem len_lo {ps : List (Int × α)} {x : Int} : (lo x ps).length ≤ ps.length := List.length_filter_le _ _
theorem len_hi {ps : List (Int × α)} {x : Int} : (hi x ps).length ≤ ps.length := List.length_filter_le _ _
theorem len_lohi {ps : List (Int × α)} {a b : Int} (h : a ≤ b) : (lo a ps).length + (hi b ps).length ≤ ps.length := by
  induction ps with
  | nil => exact Nat.le_refl 0
  | cons p r ih =>
    rw [lo, hi, List.filter_cons, List.filter_cons]
    have ih : (r.filter fun p => decide (p.1 < a)).length + (r.filter fun p => decide (b < p.1)).length ≤ r.length := ih
    by_cases q : p.1 < a
    · rw [if_pos (decide_eq_true q), if_neg (by simp; omega)]
      simp only [List.length_cons]; omega
    · by_cases q2 : b < p.1
      · rw [if_neg (by simpa using q), if_pos (decide_eq_true q2)]
        simp only [List.length_cons]; omega
      · rw [if_neg (by simpa using q), if_neg (by simpa using q2)]
        simp only [List.length_cons]; omega
theorem len_putPs {v w : α} {ps : List (Int × α)} {s e : Option Int} (hse : ∀ a b, s = some a → e = some b → a < b) : (putPs v ps w s e).2.length ≤ ps.length + 2 := by
  cases s with
  | none =>
    cases e with
    | none => exact Nat.zero_le _
    | some b =>
      have := len_hi (ps := ps) (x := b)
      show (hi b ps).length + 1 ≤ _
      omega
  | some a =>
    cases e with
    | none =>
      have := len_lo (ps := ps) (x := a)
      show (lo a ps ++ [(a, w)]).length ≤ _
      rw [List.length_append, List.length_singleton]
      omega
    | some b =>
      have := len_lohi (ps := ps) (Int.le_of_lt (hse a b rfl rfl))
      show (lo a ps ++ (a, w) :: (b, at_ v ps b) :: hi b ps).length ≤ _
      rw [List.length_append, List.length_cons, List.length_cons]
      omega
theorem len_opnPs {o v : α} {ps : List (Int × α)} {p n : Int} : (opnPs o v ps p n).length ≤ ps.length + 2 := by
  have := len_lohi (ps := ps) (Int.le_refl p)
  unfold opnPs
  rw [List.length_append, List.length_cons, List.length_cons, List.length_map]
  omega
theorem len_clsPs {v : α} {ps : List (Int × α)} {p n : Int} (hn : 0 ≤ n) : (clsPs v ps p n).length ≤ ps.length + 2 := by
  have := len_lohi (ps := ps) (a := p) (b := p + n) (by omega)
  unfold clsPs
  rw [List.length_append, List.length_cons, List.length_map]
  omega
theorem at_mem' {v : α} {ps : List (Int × α)} {x : Int} {P : α → Prop} (h : ∀ y ∈ holds v ps, P y) : P (at_ v ps x) := h _ at_mem
theorem hold_of {v : α} {ps : List (Int × α)} {p : Int × α} (h : p ∈ ps) : p.2 ∈ holds v ps := List.mem_cons_of_mem _ (List.mem_map.mpr ⟨p, h, rfl⟩)
theorem all_holds {v : α} {ps : List (Int × α)} {P : α → Prop} (h0 : P v) (h : ∀ p ∈ ps, P p.2) : ∀ y ∈ holds v ps, P y := fun y hy => by
  rcases List.mem_cons.mp hy with z | z
  · rw [z]; exact h0
  · obtain ⟨p, hp, rfl⟩ := List.mem_map.mp z
    exact h p hp
theorem all_putPs {v w : α} {ps : List (Int × α)} {s e : Option Int} {P : α → Prop} (h : ∀ y ∈ holds v ps, P y) (hw : P w) : ∀ y ∈ holds (putPs v ps w s e).1 (putPs v ps w s e).2, P y := by
  have h0 : P v := h v List.mem_cons_self
  have hl : ∀ a, ∀ p ∈ lo a ps, P p.2 := fun a p hp => h _ (hold_of (lo_mem hp))
  have hh : ∀ a, ∀ p ∈ hi a ps, P p.2 := fun a p hp => h _ (hold_of (hi_mem hp))
  cases s with
  | none =>
    cases e with
    | none => exact all_holds hw fun _ h => nomatch h
    | some b =>
      refine all_holds hw fun p hp => ?_
      rcases List.mem_cons.mp hp with z | z
      · rw [z]; exact at_mem' h
      · exact hh b p z
  | some a =>
    cases e with
    | none =>
      refine all_holds h0 fun p hp => ?_
      rcases List.mem_append.mp hp with z | z
      · exact hl a p z
      · rw [List.mem_singleton.mp z]; exact hw
    | some b =>
      refine all_holds h0 fun p hp => ?_
      rcases List.mem_append.mp hp with z | z
      · exact hl a p z
      · rcases List.mem_cons.mp z with z | z
        · rw [z]; exact hw
        · rcases List.mem_cons.mp z with z | z
          · rw [z]; exact at_mem' h
          · exact hh b p z
theorem all_opnPs {o v : α} {ps : List (Int × α)} {p n : Int} {P : α → Prop} (h : ∀ y ∈ holds v ps, P y) (ho : P o) : ∀ y ∈ holds v (opnPs o v ps p n), P y :=
  all_holds (h v List.mem_cons_self) fun q hq => by
    rcases List.mem_append.mp hq with z | z
    · exact h _ (hold_of (lo_mem z))
    · rcases List.mem_cons.mp z with z | z
      · rw [z]; exact ho
      · rcases List.mem_cons.mp z with z | z
        · rw [z]; exact at_mem' h
        · obtain ⟨r, hr, rfl⟩ := List.mem_map.mp z
          exact h r.2 (hold_of (p := r) (hi_mem hr))
theorem all_clsPs {v : α} {ps : List (Int × α)} {p n : Int} {P : α → Prop} (h : ∀ y ∈ holds v ps, P y) : ∀ y ∈ holds v (clsPs v ps p n), P y :=
  all_holds (h v List.mem_cons_self) fun q hq => by
    rcases List.mem_append.mp hq with z | z
    · exact h _ (hold_of (lo_mem z))
    · rcases List.mem_cons.mp z with z | z
      · rw [z]; exact at_mem' h
      · obtain ⟨r, hr, rfl⟩ := List.mem_map.mp z
        exact h r.2 (hold_of (p := r) (hi_mem hr))
theorem all_strPs {v : α} {ps : List (Int × α)} {t : Int} {P : α → Prop} (h : ∀ y ∈ holds v ps, P y) : ∀ y ∈ holds v (strPs ps t), P y :=
  all_holds (h v List.mem_cons_self) fun q hq => by
    obtain ⟨r, hr, rfl⟩ := List.mem_map.mp hq
    exact h r.2 (hold_of (p := r) hr)
/-- where a deed carries a place -/
def moved : Deed α → Int → Int
  | .put _ _ _, x => x
  | .opn p n, x => if x ≥ p then x + n else x
  | .cls p n, x => if x ≥ p then max p (x - n) else x
  | .str t, x => x * t
/-! ### the places at which something may change -/
abbrev Steps (f : Int → α) (es : List Int) : Prop := ∀ x y, x ≤ y → (∀ e ∈ es, e ≤ x ∨ y < e) → f x = f y
theorem steps_at {v : α} {ps : List (Int × α)} : Steps (at_ v ps) (cuts ps) := fun x y hxy h => at_steps hxy fun p hp => h _ (List.mem_map.mpr ⟨p, hp, rfl⟩)
theorem steps_mono {f : Int → α} {es es' : List Int} (h : Steps f es) (hs : ∀ e ∈ es, e ∈ es') : Steps f es' := fun x y hxy hx => h x y hxy fun e he => hx e (hs e he)
/-- the edges behind a deed -/
def optL : Option Int → List Int
  | none => []
  | some a => [a]
def edges (es : List Int) : Deed α → List Int
  | .put s e _ => es ++ (optL s ++ optL e)
  | .opn p n => (es.map fun e => if e ≥ p then e + n else e) ++ [p, p + n]
  | .cls p n => (es.map fun e => max (min e p) (e - n)) ++ [p]
  | .str t => es.map fun e => e * t
theorem steps_edges {o : α} {f : Int → α} {es : List Int} {d : Deed α} (hd : d.ok) (h : Steps f es) : Steps (back o f d) (edges es d) := by
  intro x y hxy hx
  cases d with
  | put s e v =>
    have h1 : f x = f y := h x y hxy fun e he => hx e (List.mem_append_left _ he)
    have hs : ∀ a, s = some a → (a ≤ x ∨ y < a) := fun a ha => hx a (List.mem_append_right _ (List.mem_append_left _ (by rw [ha]; exact List.mem_singleton_self a)))
    have he : ∀ a, e = some a → (a ≤ x ∨ y < a) := fun a ha => hx a (List.mem_append_right _ (List.mem_append_right _ (by rw [ha]; exact List.mem_singleton_self a)))
    have e1 : inPut s e x = inPut s e y := by
      unfold inPut
      cases s with
      | none =>
        cases e with
        | none => rfl
        | some b =>
          have := he b rfl
          show (true && decide (x < b)) = (true && decide (y < b))
          rw [decide_eq_decide.mpr (by omega : x < b ↔ y < b)]
      | some a =>
        have := hs a rfl
        have e2 : decide (a ≤ x) = decide (a ≤ y) := decide_eq_decide.mpr (by omega)
        cases e with
        | none =>
          show (decide (a ≤ x) && true) = (decide (a ≤ y) && true)
          rw [e2]
        | some b =>
          have := he b rfl
          show (decide (a ≤ x) && decide (x < b)) = (decide (a ≤ y) && decide (y < b))
          rw [e2, decide_eq_decide.mpr (by omega : x < b ↔ y < b)]
    show (if _ then _ else _) = (if _ then _ else _)
    rw [e1, h1]
  | opn p n =>
    have hn : 0 ≤ n := hd
    have hp : p ≤ x ∨ y < p := hx p (List.mem_append_right _ List.mem_cons_self)
    have hq : p + n ≤ x ∨ y < p + n := hx _ (List.mem_append_right _ (List.mem_cons_of_mem _ List.mem_cons_self))
    have hm : ∀ e ∈ es, (if e ≥ p then e + n else e) ≤ x ∨ y < (if e ≥ p then e + n else e) := fun e he => hx _ (List.mem_append_left _ (List.mem_map.mpr ⟨e, he, rfl⟩))
    show (if x < p then f x else if x < p + n then o else f (x - n)) = (if y < p then f y else if y < p + n then o else f (y - n))
    by_cases q : x < p
    · rw [if_pos q, if_pos (by omega : y < p)]
      refine h x y hxy fun e he => ?_
      have := hm e he
      by_cases z : e ≥ p
      · right; omega
      · rw [if_neg z] at this; exact this
    · rw [if_neg q, if_neg (by omega : ¬ y < p)]
      by_cases q2 : x < p + n
      · rw [if_pos q2, if_pos (by omega : y < p + n)]
      · rw [if_neg q2, if_neg (by omega : ¬ y < p + n)]
        refine h _ _ (by omega) fun e he => ?_
        have := hm e he
        by_cases z : e ≥ p
        · rw [if_pos z] at this; omega
        · left; omega
  | cls p n =>
    have hn : 0 ≤ n := hd
    have hp : p ≤ x ∨ y < p := hx p (List.mem_append_right _ List.mem_cons_self)
    have hm : ∀ e ∈ es, max (min e p) (e - n) ≤ x ∨ y < max (min e p) (e - n) := fun e he => hx _ (List.mem_append_left _ (List.mem_map.mpr ⟨e, he, rfl⟩))
    show (if x < p then f x else f (x + n)) = (if y < p then f y else f (y + n))
    by_cases q : x < p
    · rw [if_pos q, if_pos (by omega : y < p)]
      refine h x y hxy fun e he => ?_
      have := hm e he
      omega
    · rw [if_neg q, if_neg (by omega : ¬ y < p)]
      refine h _ _ (by omega) fun e he => ?_
      have := hm e he
      omega
  | str t =>
    have ht : 1 ≤ t := hd
    have hm : ∀ e ∈ es, e * t ≤ x ∨ y < e * t := fun e he => hx _ (List.mem_map.mpr ⟨e, he, rfl⟩)
    show f (x / t) = f (y / t)
    refine h _ _ (Int.ediv_le_ediv (by omega) hxy) fun e he => ?_
    rcases hm e he with z | z
    · left; exact (Int.le_ediv_iff_mul_le (by omega)).mpr z
    · right; exact Int.ediv_lt_of_lt_mul (by omega) z
theorem len_edges {es : List Int} {d : Deed α} : (edges es d).length ≤ es.length + 2 := by
  cases d with
  | put s e v => cases s <;> cases e <;> simp [edges, optL]
  | opn p n => simp [edges]
  | cls p n => simp [edges]
  | str t => simp [edges]
/-- a row of deeds -/
def after (o : α) (ds : List (Deed α)) : Int → α := ds.foldl (fun f d => back o f d) fun _ => o
def edgesAll (ds : List (Deed α)) : List Int := ds.foldl (fun es d => edges es d) []
theorem after_snoc {o : α} {ds : List (Deed α)} {d : Deed α} : after o (ds ++ [d]) = back o (after o ds) d := by
  unfold after
  rw [List.foldl_append] <;> rfl
theorem edgesAll_snoc {ds : List (Deed α)} {d : Deed α} : edgesAll (ds ++ [d]) = edges (edgesAll ds) d := by
  unfold edgesAll
  rw [List.foldl_append] <;> rfl
theorem steps_all {o : α} : ∀ (n : Nat) (ds : List (Deed α)), ds.length = n → (∀ d ∈ ds, d.ok) → Steps (after o ds) (edgesAll ds)
  | 0, ds, hl, _ => by
    rw [List.length_eq_zero_iff.mp hl]
    intro x y _ _
    rfl
  | n + 1, ds, hl, h => by
    have hne : ds ≠ [] := fun z => by rw [z] at hl; cases hl
    rw [← List.dropLast_concat_getLast hne, after_snoc, edgesAll_snoc]
    refine steps_edges (h _ (List.getLast_mem hne)) (steps_all n _ (by rw [List.length_dropLast, hl]; rfl) fun d hd => h d (List.dropLast_subset _ hd))
/-- whether what stands at a place stays -/
def stays : Deed α → Int → Bool
  | .put s e _, x => !inPut s e x
  | .opn _ _, _ => true
  | .cls p n, x => decide (x < p) || decide (x ≥ p + n)
  | .str _, _ => true
theorem back_moved {o : α} {f : Int → α} {d : Deed α} {x : Int} (hd : d.ok) (h : stays d x = true) : back o f d (moved d x) = f x := by
  cases d with
  | put s e v =>
    have h : (!inPut s e x) = true := h
    rw [back_put, if_neg]
    · rfl
    · show ¬ inPut s e x = true
      intro z
      rw [z] at h
      cases h
  | opn p n =>
    have hn : 0 ≤ n := hd
    rw [back_opn, show moved (Deed.opn p n : Deed α) x = (if x ≥ p then x + n else x) from rfl]
    by_cases z : x ≥ p
    · rw [if_pos z, if_neg (by omega), if_neg (by omega), Int.add_sub_cancel]
    · rw [if_neg z, if_pos (by omega)]
  | cls p n =>
    have hn : 0 ≤ n := hd
    have h : (decide (x < p) || decide (x ≥ p + n)) = true := h
    rw [Bool.or_eq_true, decide_eq_true_iff, decide_eq_true_iff] at h
    rw [back_cls, show moved (Deed.cls p n : Deed α) x = (if x ≥ p then max p (x - n) else x) from rfl]
    by_cases z : x ≥ p
    · rw [if_pos z, if_neg (by omega)]
      congr 1
      omega
    · rw [if_neg z, if_pos (by omega)]
  | str t =>
    have ht : 1 ≤ t := hd
    show f (x * t / t) = f x
    rw [Int.mul_ediv_cancel _ (by omega)]
theorem lo_of {f : Int → α} {es : List Int} {first : Int} (h : Steps f es) (hf : ∀ e ∈ es, first < e) (x : Int) (hx : ∀ e ∈ es, x < e) : f x = f first := by
  rcases Int.le_total x first with z | z
  · exact h x first z fun e he => .inr (hf e he)
  · exact (h first x z fun e he => .inr (hx e he)).symm
theorem walkE_len [DecidableEq α] {f : Int → α} : ∀ {es : List Int} {v : α}, (walkE f v es).length ≤ es.length
  | [], _ => Nat.le_refl 0
  | e :: es, v => by
    unfold walkE
    split
    · exact Nat.le_succ_of_le walkE_len
    · exact Nat.succ_le_succ walkE_len
theorem walkE_val [DecidableEq α] {f : Int → α} {P : α → Prop} (h : ∀ x, P (f x)) {es : List Int} {x : Int} : ∀ y ∈ holds (f x) (walkE f (f x) es), P y := all_holds (h x) fun p hp => by
  rw [(walkE_mem hp).2]
  exact h _
/-- a function told at edges as a table -/
theorem table_ge {f : Int → α} : ∀ {es : List Int} {v : α} {b : Int}, es.Pairwise (· < ·) → (∀ e ∈ es, b ≤ e) → f b = v → (∀ x y, b ≤ x → x ≤ y → (∀ e ∈ es, e ≤ x ∨ y < e) → f x = f y) → ∀ x, b ≤ x → at_ v (es.map fun e => (e, f e)) x = f x
  | [], v, b, _, _, hv, hst, x, hx => by
    rw [← hv]
    exact hst b x (Int.le_refl b) hx fun _ h => nomatch h
  | e :: es, v, b, hp, hb, hv, hst, x, hx => by
    obtain ⟨h1, h2⟩ := List.pairwise_cons.mp hp
    have hbe := hb e List.mem_cons_self
    rw [List.map_cons, at_cons]
    by_cases hxe : x < e
    · have q : f b = f x := hst b x (Int.le_refl b) hx fun e' he' => by
        rcases List.mem_cons.mp he' with z | z
        · right; omega
        · right
          have := h1 e' z
          omega
      rw [if_neg (by omega), at_lo, ← hv, q]
      intro p hp'
      obtain ⟨e', he', rfl⟩ := List.mem_map.mp hp'
      have := h1 e' he'
      show x < e'
      omega
    · rw [if_pos (by omega)]
      refine table_ge h2 (fun e' he' => by have := h1 e' he'; omega) rfl (fun x y h3 h4 h5 => hst x y (by omega) h4 fun e' he' => ?_) x (by omega)
      rcases List.mem_cons.mp he' with z | z
      · left; omega
      · exact h5 e' z
theorem at_table {f : Int → α} {es : List Int} {v : α} (hp : es.Pairwise (· < ·)) (hlo : ∀ x, (∀ e ∈ es, x < e) → f x = v) (hst : Steps f es) (x : Int) : at_ v (es.map fun e => (e, f e)) x = f x := by
  obtain ⟨b, h1, h2⟩ := low ((es.map fun e => (e, ()))) x
  have h2 : ∀ e ∈ es, b < e := fun e he => h2 (e, ()) (List.mem_map.mpr ⟨e, he, rfl⟩)
  exact table_ge hp (fun e he => Int.le_of_lt (h2 e he)) (hlo b h2) (fun x y _ h => hst x y h) x h1
theorem srt_table {f : Int → α} {es : List Int} (hp : es.Pairwise (· < ·)) : Srt (es.map fun e => (e, f e)) := List.pairwise_map.mpr (hp.imp fun h => Int.le_of_lt h)
theorem cuts_table {f : Int → α} {es : List Int} : cuts (es.map fun e => (e, f e)) = es := by
  show (es.map _).map _ = es
  rw [List.map_map]
  exact List.map_id es
theorem holds_table {f : Int → α} {es : List Int} {v : α} : holds v (es.map fun e => (e, f e)) = v :: es.map f := by
  show v :: (es.map _).map _ = _
  rw [List.map_map] <;> rfl
theorem back_val {o : α} {f : Int → α} {d : Deed α} {P : α → Prop} (ho : P o) (hf : ∀ x, P (f x)) (hd : ∀ s e v, d = .put s e v → P v) (x : Int) : P (back o f d x) := by
  cases d with
  | put s e v =>
    show P (if _ then _ else _)
    split
    · exact hd s e v rfl
    · exact hf x
  | opn p n =>
    show P (if _ then _ else if _ then _ else _)
    split
    · exact hf x
    · split
      · exact ho
      · exact hf _
  | cls p n =>
    show P (if _ then _ else _)
    split
    · exact hf x
    · exact hf _
  | str t => exact hf _
end
end Cut
/-! runs, rooms, where lines part: plain data -/
namespace Cut
section
variable {α : Type} {f g : Int → α}
/-- runs from s to t, the last ahead -/
def Rv (f : Int → α) (s : Int) : Int → List (Int × Int × α) → Prop
  | t, [] => t = s
  | t, (a, b, v) :: r => b = t ∧ a < b ∧ (∀ x, a ≤ x → x < b → f x = v) ∧ Rv f s a r ∧ ∀ q r', r = q :: r' → q.2.2 ≠ v
theorem rv_ge {s : Int} : ∀ {t : Int} {r : List (Int × Int × α)}, Rv f s t r → s ≤ t
  | t, [], h => by
    have h : t = s := h
    omega
  | t, (a, b, v) :: r, ⟨h1, h2, _, h4, _⟩ => by
    have := rv_ge h4
    omega
theorem rv_last {s t : Int} {q : Int × Int × α} {r : List (Int × Int × α)} (h : Rv f s t (q :: r)) : s < t ∧ f (t - 1) = q.2.2 := by
  obtain ⟨a, b, v⟩ := q
  obtain ⟨h1, h2, h3, h4, _⟩ := h
  have := rv_ge h4
  exact ⟨by omega, h3 (t - 1) (by omega) (by omega)⟩
theorem rv_lt {s a a' t : Int} {v : α} {r r' : List (Int × Int × α)} (h1 : ∀ x, a ≤ x → x < t → f x = v) (h2 : Rv f s a r) (h3 : Rv f s a' r') (h4 : ∀ q r'', r' = q :: r'' → q.2.2 ≠ v) (ha : a' < t) : a' ≤ a := by
  rcases Int.lt_or_le a a' with z | z
  · cases r' with
    | nil =>
      have h3 : a' = s := h3
      have := rv_ge h2
      omega
    | cons q r'' =>
      obtain ⟨_, e⟩ := rv_last h3
      exact absurd (e.symm.trans (h1 (a' - 1) (by omega) (by omega))) (h4 q r'' rfl)
  · exact z
theorem rv_uniq {s : Int} : ∀ {t : Int} {r r' : List (Int × Int × α)}, Rv f s t r → Rv f s t r' → r = r'
  | _, [], [], _, _ => rfl
  | t, [], q :: r', h, h' => by
    have h : t = s := h
    have := (rv_last h').1
    omega
  | t, q :: r, [], h, h' => by
    have h' : t = s := h'
    have := (rv_last h).1
    omega
  | t, (a, b, v) :: r, (a', b', v') :: r', h, h' => by
    have e1 := (rv_last h).2
    have e2 := (rv_last h').2
    have ev : v = v' := e1.symm.trans e2
    obtain ⟨h1, h2, h3, h4, h5⟩ := h
    obtain ⟨h1', h2', h3', h4', h5'⟩ := h'
    subst h1; subst h1'; subst ev
    have := rv_lt h3 h4 h4' h5' h2'
    have := rv_lt h3' h4' h4 h5 h2
    have ea : a = a' := by omega
    subst ea
    rw [rv_uniq h4 h4']
theorem rv_snoc {s t u : Int} {r : List (Int × Int × α)} (h : Rv f s t r) (h1 : t < u) (h2 : ∀ x, t ≤ x → x < u → f x = f t) (h3 : r ≠ [] → f t ≠ f (t - 1)) : Rv f s u ((t, u, f t) :: r) :=
  ⟨rfl, h1, h2, h, fun q r' e => by
    subst e
    rw [← (rv_last h).2]
    exact fun z => h3 (List.cons_ne_nil _ _) z.symm⟩
theorem rv_grow {s t u : Int} {a b : Int} {v : α} {r : List (Int × Int × α)} (h : Rv f s t ((a, b, v) :: r)) (h1 : t < u) (h2 : ∀ x, t ≤ x → x < u → f x = v) : Rv f s u ((a, u, v) :: r) := by
  obtain ⟨e, h3, h4, h5, h6⟩ := h
  exact ⟨rfl, by omega, fun x hx hu => by
    rcases Int.lt_or_le x b with z | z
    · exact h4 x hx z
    · exact h2 x (by omega) hu, h5, h6⟩
theorem rv_else {s t u : Int} {q : Int × Int × α} {r : List (Int × Int × α)} (h : Rv f s t (q :: r)) (h1 : t < u) (h2 : ∀ x, t ≤ x → x < u → f x = f t) (h3 : q.2.2 ≠ f t) : Rv f s u ((t, u, f t) :: q :: r) :=
  rv_snoc h h1 h2 fun _ => by
    rw [(rv_last h).2]
    exact h3.symm
theorem rv_nil {s : Int} : Rv f s s ([] : List (Int × Int × α)) := rfl
theorem rv_one {s u : Int} (h1 : s < u) (h2 : ∀ x, s ≤ x → x < u → f x = f s) : Rv f s u [(s, u, f s)] := rv_snoc rv_nil h1 h2 fun h => absurd rfl h
theorem rv_val {s : Int} : ∀ {t : Int} {r : List (Int × Int × α)}, Rv f s t r → ∀ q ∈ r, ∃ x, f x = q.2.2
  | _, (a, b, v) :: r, ⟨_, h2, h3, h4, _⟩, q, hq => by
    rcases List.mem_cons.mp hq with z | z
    · rw [z]; exact ⟨a, h3 a (Int.le_refl a) h2⟩
    · exact rv_val h4 q z
/-- the first place from which on n places hold v -/
abbrev RoomAt (f : Int → α) (v : α) (n x : Int) : Prop := ∀ y, x ≤ y → y < x + n → f y = v
def IsRoom (f : Int → α) (v : α) (p n : Int) : Option Int → Prop
  | some x => p ≤ x ∧ RoomAt f v n x ∧ ∀ z, p ≤ z → z < x → ¬ RoomAt f v n z
  | none => ∀ z, p ≤ z → ¬ RoomAt f v n z
theorem room_uniq {v : α} {p n : Int} : ∀ {r r' : Option Int}, IsRoom f v p n r → IsRoom f v p n r' → r = r'
  | none, none, _, _ => rfl
  | some x, none, ⟨h1, h2, _⟩, h' => absurd h2 (h' x h1)
  | none, some x, h', ⟨h1, h2, _⟩ => absurd h2 (h' x h1)
  | some x, some y, ⟨h1, h2, h3⟩, ⟨h1', h2', h3'⟩ => by
    rcases Int.lt_trichotomy x y with z | z | z
    · exact absurd h2 (h3' x h1 z)
    · rw [z]
    · exact absurd h2' (h3 y h1' z)
/-- the first place at which two lines part -/
def IsPart (f g : Int → α) (p : Int) : Option Int → Prop
  | some x => p ≤ x ∧ f x ≠ g x ∧ ∀ z, p ≤ z → z < x → f z = g z
  | none => ∀ z, p ≤ z → f z = g z
theorem part_uniq {p : Int} : ∀ {r r' : Option Int}, IsPart f g p r → IsPart f g p r' → r = r'
  | none, none, _, _ => rfl
  | some x, none, ⟨h1, h2, _⟩, h' => absurd (h' x h1) h2
  | none, some x, h', ⟨h1, h2, _⟩ => absurd (h' x h1) h2
  | some x, some y, ⟨h1, h2, h3⟩, ⟨h1', h2', h3'⟩ => by
    rcases Int.lt_trichotomy x y with z | z | z
    · exact absurd (h3' x h1 z) h2
    · rw [z]
    · exact absurd (h3 y h1' z) h2'
theorem part_symm {p : Int} : ∀ {r : Option Int}, IsPart f g p r → IsPart g f p r
  | none, h => fun z hz => (h z hz).symm
  | some x, ⟨h1, h2, h3⟩ => ⟨h1, fun e => h2 e.symm, fun z hz hx => (h3 z hz hx).symm⟩
abbrev StepsGe (f : Int → α) (x : Int) (es : List Int) : Prop := ∀ a b, x ≤ a → a ≤ b → (∀ e ∈ es, e ≤ a ∨ b < e) → f a = f b
def PartInv (f g : Int → α) (x : Int) (es : List Int) (i : Nat) : Prop := ∀ z, x ≤ z → (∀ c ∈ es.drop i, z < c) → f z = g z
theorem part_init {x : Int} {es : List Int} (hf : StepsGe f x es) (hg : StepsGe g x es) (hx : ∀ e ∈ es, x ≤ e) (h : f x = g x) : PartInv f g x es 0 := fun z hz hc => by
  have h1 := hf x z (Int.le_refl x) hz fun e he => .inr (hc e he)
  have h2 := hg x z (Int.le_refl x) hz fun e he => .inr (hc e he)
  rw [← h1, ← h2, h]
theorem part_step {x c : Int} {es : List Int} {i : Nat} (hs : es.Pairwise (· ≤ ·)) (hf : StepsGe f x es) (hg : StepsGe g x es) (hx : ∀ e ∈ es, x ≤ e) (hc : es[i]? = some c) (h : f c = g c) (P : PartInv f g x es i) : PartInv f g x es (i + 1) := fun z hz hd => by
  obtain ⟨hi, e⟩ := List.getElem?_eq_some_iff.mp hc
  rcases Int.lt_or_le z c with y | y
  · refine P z hz fun d hd' => ?_
    rw [List.drop_eq_getElem_cons hi, e] at hd'
    rcases List.mem_cons.mp hd' with y2 | y2
    · omega
    · exact hd d y2
  · have hcm := List.mem_of_getElem? hc
    have hall : ∀ d ∈ es, d ≤ c ∨ z < d := fun d hdm => by
      obtain ⟨j, hj, ej⟩ := List.getElem_of_mem hdm
      rcases Nat.lt_or_ge i j with y2 | y2
      · right
        refine hd d ?_
        rw [← ej]
        refine List.mem_iff_getElem.mpr ⟨j - (i + 1), by rw [List.length_drop]; omega, ?_⟩
        rw [List.getElem_drop]
        congr 1
        omega
      · left
        rcases Nat.lt_or_ge j i with y3 | y3
        · have := List.pairwise_iff_getElem.mp hs j i hj hi y3
          omega
        · have : j = i := by omega
          subst this
          omega
    rw [← hf c z (hx c hcm) y hall, ← hg c z (hx c hcm) y hall, h]
theorem part_found {x c : Int} {es : List Int} {i : Nat} (hs : es.Pairwise (· ≤ ·)) (hx : ∀ e ∈ es, x ≤ e) (hc : es[i]? = some c) (h : f c ≠ g c) (P : PartInv f g x es i) : IsPart f g x (some c) := by
  obtain ⟨hi, e⟩ := List.getElem?_eq_some_iff.mp hc
  refine ⟨hx c (List.mem_of_getElem? hc), h, fun z hz hzc => P z hz fun d hd => ?_⟩
  obtain ⟨j, hj, ej⟩ := List.getElem_of_mem hd
  rw [List.getElem_drop] at ej
  rw [List.length_drop] at hj
  rcases Nat.eq_zero_or_pos j with y | y
  · subst y
    have : es[i + 0] = c := e
    omega
  · have := List.pairwise_iff_getElem.mp hs i (i + j) hi (by omega) (by omega)
    omega
theorem part_end {x : Int} {es : List Int} (P : PartInv f g x es es.length) : IsPart f g x none := fun z hz => P z hz fun c hc => by
  rw [List.drop_length] at hc
  cases hc
theorem stepsGe_hi {v : α} {ps : List (Int × α)} {x : Int} {es : List Int} (h : ∀ c ∈ cuts (hi x ps), c ∈ es) : StepsGe (at_ v ps) x es := fun a b hx hab he => at_steps hab fun p hp => by
  by_cases z : p.1 ≤ a
  · exact .inl z
  · have hm : p.1 ∈ cuts (hi x ps) := List.mem_map.mpr ⟨p, List.mem_filter.mpr ⟨hp, decide_eq_true (by omega)⟩, rfl⟩
    exact he _ (h _ hm)
/-! rooms, walked over edges -/
def RoomInv (f : Int → α) (u : α) (x n : Int) (ds : List Int) (k : Nat) : Option Int → Prop
  | none => ∀ z, x ≤ z → (∀ c ∈ ds.drop k, z < c) → ¬ RoomAt f u n z
  | some s => x ≤ s ∧ (∀ z, x ≤ z → z < s → ¬ RoomAt f u n z) ∧ (∀ z, s ≤ z → (∀ c ∈ ds.drop k, z < c) → f z = u) ∧ ∃ t, ds[k]? = some t ∧ s < t ∧ t - s < n
def RoomMid (f : Int → α) (u : α) (x n : Int) (ds : List Int) (k : Nat) (t : Int) : Option Int → Prop
  | none => ∀ z, x ≤ z → (∀ c ∈ ds.drop (k + 1), z < c) → ¬ RoomAt f u n z
  | some s => x ≤ s ∧ (∀ z, x ≤ z → z < s → ¬ RoomAt f u n z) ∧ (∀ z, s ≤ z → (∀ c ∈ ds.drop (k + 1), z < c) → f z = u) ∧ s ≤ t
theorem drop_lt {ds : List Int} {k : Nat} {t z : Int} (hs : ds.Pairwise (· ≤ ·)) (ht : ds[k]? = some t) (hz : z < t) : ∀ c ∈ ds.drop k, z < c := fun c hc => by
  obtain ⟨hk, e⟩ := List.getElem?_eq_some_iff.mp ht
  obtain ⟨j, hj, ej⟩ := List.getElem_of_mem hc
  rw [List.getElem_drop] at ej
  rw [List.length_drop] at hj
  rcases Nat.eq_zero_or_pos j with y | y
  · subst y
    have : ds[k + 0] = t := e
    omega
  · have := List.pairwise_iff_getElem.mp hs k (k + j) hk (by omega) (by omega)
    omega
theorem step_at' {ds : List Int} {k : Nat} {x t z : Int} (hs : ds.Pairwise (· ≤ ·)) (hf : StepsGe f x ds) (hx : ∀ e ∈ ds, x ≤ e) (ht : ds[k]? = some t) (hz : t ≤ z) (hd : ∀ c ∈ ds.drop (k + 1), z < c) : f z = f t := by
  obtain ⟨hk, e⟩ := List.getElem?_eq_some_iff.mp ht
  refine (hf t z (hx t (List.mem_of_getElem? ht)) hz fun d hdm => ?_).symm
  obtain ⟨j, hj, ej⟩ := List.getElem_of_mem hdm
  rcases Nat.lt_or_ge k j with y2 | y2
  · right
    refine hd d ?_
    rw [← ej]
    refine List.mem_iff_getElem.mpr ⟨j - (k + 1), by rw [List.length_drop]; omega, ?_⟩
    rw [List.getElem_drop]
    congr 1
    omega
  · left
    rcases Nat.lt_or_ge j k with y3 | y3
    · have := List.pairwise_iff_getElem.mp hs j k hj hk y3
      omega
    · have : j = k := by omega
      subst this
      omega
theorem room_bad {u : α} {x n t : Int} {ds : List Int} {k : Nat} {since : Option Int} (hn : 1 ≤ n) (hs : ds.Pairwise (· ≤ ·)) (hf : StepsGe f x ds) (hx : ∀ e ∈ ds, x ≤ e) (ht : ds[k]? = some t) (h : f t ≠ u) (I : RoomInv f u x n ds k since) : RoomMid f u x n ds k t none := fun z hz hd hr => by
  rcases Int.lt_or_le z t with y | y
  · cases since with
    | none => exact I z hz (drop_lt hs ht y) hr
    | some s =>
      obtain ⟨h1, h2, h3, t', h4, h5, h6⟩ := I
      rw [ht] at h4
      cases Option.some.inj h4
      rcases Int.lt_or_le z s with y2 | y2
      · exact h2 z hz y2 hr
      · exact h (hr t (by omega) (by omega))
  · exact h ((step_at' hs hf hx ht y hd).symm.trans (hr z (Int.le_refl z) (by omega)))
theorem room_new {u : α} {x n t : Int} {ds : List Int} {k : Nat} (hs : ds.Pairwise (· ≤ ·)) (hf : StepsGe f x ds) (hx : ∀ e ∈ ds, x ≤ e) (ht : ds[k]? = some t) (h : f t = u) (I : RoomInv f u x n ds k none) : RoomMid f u x n ds k t (some t) :=
  ⟨hx t (List.mem_of_getElem? ht), fun z hz hzt => I z hz (drop_lt hs ht hzt), fun z hz hd => (step_at' hs hf hx ht hz hd).trans h, Int.le_refl t⟩
theorem room_go {u : α} {x n t s : Int} {ds : List Int} {k : Nat} (hs : ds.Pairwise (· ≤ ·)) (hf : StepsGe f x ds) (hx : ∀ e ∈ ds, x ≤ e) (ht : ds[k]? = some t) (h : f t = u) (I : RoomInv f u x n ds k (some s)) : RoomMid f u x n ds k t (some s) := by
  obtain ⟨h1, h2, h3, t', h4, h5, h6⟩ := I
  rw [ht] at h4
  cases Option.some.inj h4
  refine ⟨h1, h2, fun z hz hd => ?_, Int.le_of_lt h5⟩
  rcases Int.lt_or_le z t with y | y
  · exact h3 z hz (drop_lt hs ht y)
  · exact (step_at' hs hf hx ht y hd).trans h
theorem room_last {u : α} {x n t s : Int} {ds : List Int} {k : Nat} (hk : k + 1 = ds.length) (M : RoomMid f u x n ds k t (some s)) : IsRoom f u x n (some s) := by
  obtain ⟨h1, h2, h3, _⟩ := M
  refine ⟨h1, fun y hy _ => h3 y hy fun c hc => ?_, h2⟩
  rw [hk, List.drop_length] at hc
  cases hc
theorem room_hit {u : α} {x n t s t' : Int} {ds : List Int} {k : Nat} (hs : ds.Pairwise (· ≤ ·)) (ht : ds[k + 1]? = some t') (hn : t' - s ≥ n) (M : RoomMid f u x n ds k t (some s)) : IsRoom f u x n (some s) := by
  obtain ⟨h1, h2, h3, _⟩ := M
  exact ⟨h1, fun y hy hy2 => h3 y hy (drop_lt hs ht (by omega)), h2⟩
theorem room_next {u : α} {x n t s t' : Int} {ds : List Int} {k : Nat} (hs : ds.Pairwise (· < ·)) (hk : ds[k]? = some t) (ht : ds[k + 1]? = some t') (hn : t' - s < n) (M : RoomMid f u x n ds k t (some s)) : RoomInv f u x n ds (k + 1) (some s) := by
  obtain ⟨h1, h2, h3, h4⟩ := M
  obtain ⟨a1, a2⟩ := List.getElem?_eq_some_iff.mp hk
  obtain ⟨b1, b2⟩ := List.getElem?_eq_some_iff.mp ht
  have := List.pairwise_iff_getElem.mp hs k (k + 1) a1 b1 (by omega)
  exact ⟨h1, h2, h3, t', ht, by omega, hn⟩
theorem room_end {u : α} {x n : Int} {ds : List Int} : ∀ {since : Option Int}, RoomInv f u x n ds ds.length since → IsRoom f u x n none
  | none, I => fun z hz => I z hz fun c hc => by
    rw [List.drop_length] at hc
    cases hc
  | some s, ⟨_, _, _, t, h, _⟩ => by
    rw [List.getElem?_eq_none (Nat.le_refl _)] at h
    cases h
/-- in the one form something changes at each cut -/
theorem nrm_change : ∀ {ps : List (Int × α)} {v : α}, Ris ps → Nrm v ps → ∀ c ∈ cuts ps, at_ v ps c ≠ at_ v ps (c - 1)
  | [], _, _, _, _, hc => nomatch hc
  | (d, h) :: r, v, hr, hn, c, hc => by
    obtain ⟨h1, h2⟩ := List.pairwise_cons.mp hr
    by_cases z : c = d
    · subst z
      rw [at_at hr, at_lo]
      · exact hn.1
      · intro p hp
        rcases List.mem_cons.mp hp with y | y
        · rw [y]; show c - 1 < c; omega
        · have : c < p.1 := h1 p y
          omega
    · have hc : c ∈ cuts r := by
        rcases List.mem_cons.mp hc with y | y
        · exact absurd y z
        · exact y
      have hd : d < c := by
        obtain ⟨p, hp, rfl⟩ := List.mem_map.mp hc
        exact h1 p hp
      rw [at_cons, at_cons, if_pos (by omega), if_pos (by omega)]
      exact nrm_change h2 hn.2 c hc
/-- the first cut behind a place -/
abbrev nextCut (ps : List (Int × α)) (x : Int) : Option Int := (cuts (hi x ps)).head?
theorem next_none {v : α} {ps : List (Int × α)} {x : Int} (h : nextCut ps x = none) {y : Int} (hy : x ≤ y) : at_ v ps y = at_ v ps x :=
  (at_steps hy fun p hp => by
    by_cases z : p.1 ≤ x
    · exact .inl z
    · have : p ∈ hi x ps := List.mem_filter.mpr ⟨hp, decide_eq_true (by omega)⟩
      have e : cuts (hi x ps) = [] := List.head?_eq_none_iff.mp h
      have e2 : hi x ps = [] := List.map_eq_nil_iff.mp e
      rw [e2] at this
      cases this).symm
theorem next_some {v : α} {ps : List (Int × α)} {x c : Int} (hr : Ris ps) (hn : Nrm v ps) (h : nextCut ps x = some c) : x < c ∧ (∀ y, x ≤ y → y < c → at_ v ps y = at_ v ps x) ∧ at_ v ps c ≠ at_ v ps x := by
  obtain ⟨r, e⟩ : ∃ r, cuts (hi x ps) = c :: r := by
    cases q : cuts (hi x ps) with
    | nil => rw [nextCut, q] at h; cases h
    | cons d r =>
      rw [nextCut, q] at h
      exact ⟨r, by rw [Option.some.inj h]⟩
  have hcm : c ∈ cuts (hi x ps) := by rw [e]; exact List.mem_cons_self
  obtain ⟨p, hp, hpc⟩ := List.mem_map.mp hcm
  have hxc : x < c := by rw [← hpc]; exact hi_lt hp
  have hcp : c ∈ cuts ps := List.mem_map.mpr ⟨p, hi_mem hp, hpc⟩
  have hmin : ∀ q ∈ ps, q.1 ≤ x ∨ c ≤ q.1 := fun q hq => by
    by_cases z : q.1 ≤ x
    · exact .inl z
    · have hm : q.1 ∈ cuts (hi x ps) := List.mem_map.mpr ⟨q, List.mem_filter.mpr ⟨hq, decide_eq_true (by omega)⟩, rfl⟩
      have hs : (cuts (hi x ps)).Pairwise (· < ·) := List.pairwise_map.mpr (List.Pairwise.sublist List.filter_sublist hr)
      rw [e] at hm hs
      rcases List.mem_cons.mp hm with y | y
      · right; omega
      · have := (List.pairwise_cons.mp hs).1 _ y
        right; omega
  have hst : ∀ y, x ≤ y → y < c → at_ v ps y = at_ v ps x := fun y h1 h2 => (at_steps h1 fun q hq => by
    have := hmin q hq
    omega).symm
  refine ⟨hxc, hst, ?_⟩
  have := nrm_change hr hn c hcp
  rw [hst (c - 1) (by omega) (by omega)] at this
  exact this
end
end Cut
/-! the promises of the defs -/
namespace Cut
open PySem PySem.Spec PyProof.Rows L2 Wk
/-! ### holds -/
def Word (z : Str) : Prop := 1 ≤ z.length ∧ z.length ≤ 12 ∧ ∀ c ∈ z.cps.toList, 97 ≤ c ∧ c ≤ 122
def HV (v : V) : Prop := v = .non ∨ ∃ z, Word z ∧ v = .str z
theorem HV.scal {v w : V} (h : HV v) (h' : HV w) : scal v w = true := by
  rcases h with rfl | ⟨z, _, rfl⟩ <;> rcases h' with rfl | ⟨y, _, rfl⟩ <;> rfl
abbrev AllHV (v : V) (ps : List (Int × V)) : Prop := ∀ x ∈ holds v ps, HV x
/-- != of two holds, told by b -/
def NeOk (K : PySem.W.Frag) (H : Hp) (x y : V) (b : Bool) : Prop := ∀ H', Same H H' → ∀ Q : VK, Q (.bl (!b)) H' → rNeA K x y H' Q
theorem NeOk.flat {K : PySem.W.Frag} {H : Hp} {x y : V} (h : HV x) (h' : HV y) : NeOk K H x y (decide (x = y)) := fun H' _ Q q => g_neV (h.scal h') q
/-! ### texts -/
abbrev abc : Str := "abcdefghijklmnopqrstuvwxyz"
theorem abc_len : abc.length ≤ 100000 := by decide +kernel
theorem abc_at : ∀ k : Nat, k < 26 → abc.cps.toList[k]? = some (97 + k) := by decide +kernel
theorem letter_at {i : Int} (h0 : 0 ≤ i) (h1 : i < 26) : ∃ c : Nat, atI abc.cps.toList i = some c ∧ 97 ≤ c ∧ c ≤ 122 := by
  obtain ⟨k, rfl⟩ := Int.eq_ofNat_of_zero_le h0
  exact ⟨97 + k, atI_nat (abc_at k (by omega)), by omega, by omega⟩
theorem word1 {c : Nat} (h : 97 ≤ c ∧ c ≤ 122) : Word ⟨#[c]⟩ := ⟨Nat.le_refl 1, by show 1 ≤ 12; decide, fun d hd => by
  have e : d = c := List.mem_singleton.mp hd
  rw [e]
  exact h⟩
theorem joinL_rep (x : Nat) : ∀ n : Nat, TL.joinL [] (List.replicate (n + 1) [x]) = List.replicate (n + 1) x
  | 0 => rfl
  | n + 1 => by
    show [x] ++ ([] ++ TL.joinL [] (List.replicate (n + 1) [x])) = x :: List.replicate (n + 1) x
    rw [joinL_rep x n]
    rfl
theorem tl_joinrep (x n : Nat) : TL.tl (Txt.join "" (List.replicate (n + 1) ⟨#[x]⟩)) = List.replicate (n + 1) x := by
  rw [TL.join_eq, TL.tl_join, List.map_replicate]
  exact joinL_rep x n
theorem len_tl (z : Str) : z.length = (TL.tl z).length := (Array.length_toList).symm
theorem len_app (a b : Str) : (a ++ b).length = a.length + b.length := Array.size_append
theorem word_join {x n : Nat} (h1 : 1 ≤ n) (h2 : n ≤ 12) (hx : 97 ≤ x ∧ x ≤ 122) : (Txt.join "" (List.replicate n ⟨#[x]⟩)).length = n ∧ Word (Txt.join "" (List.replicate n ⟨#[x]⟩) ++ "") := by
  obtain ⟨m, rfl⟩ : ∃ m, n = m + 1 := ⟨n - 1, by omega⟩
  have e := tl_joinrep x m
  have hl : (Txt.join "" (List.replicate (m + 1) ⟨#[x]⟩)).length = m + 1 := by rw [len_tl, e, List.length_replicate]
  have e0 : ("" : Str).length = 0 := by decide +kernel
  refine ⟨hl, by rw [len_app, hl, e0]; omega, by rw [len_app, hl, e0]; omega, fun c hc => ?_⟩
  have hc : c ∈ TL.tl (Txt.join "" (List.replicate (m + 1) ⟨#[x]⟩) ++ "") := hc
  rw [TL.tl_append, e] at hc
  have et : TL.tl ("" : Str) = [] := by decide +kernel
  rw [et, List.append_nil] at hc
  rw [(List.mem_replicate.mp hc).2]
  exact hx
theorem rep_sum (y : Str) : ∀ n : Nat, ((List.replicate n y).map (·.length)).sum = n * y.length
  | 0 => by simp
  | n + 1 => by
    rw [List.replicate_succ, List.map_cons, List.sum_cons, rep_sum y n, Nat.succ_mul]
    omega
theorem map_range_const {α : Type} (n : Nat) (a : α) : (List.range n).map (fun _ => a) = List.replicate n a := by
  refine List.ext_getElem (by simp) fun i h1 h2 => by simp
/-! ### lists -/
theorem cut1 (xs : List V) : cutV xs (some 1) none = xs.drop 1 := by
  unfold cutV
  rw [show HT.sIx xs.length 0 (some 1) = min 1 xs.length from HT.sIx_nat xs.length 0 1, HT.sIx_none]
  cases xs with
  | nil => rfl
  | cons x r =>
    rw [show min 1 (x :: r).length = 1 by rw [List.length_cons]; omega]
    show (List.take ((x :: r).length - 1) r) = r
    rw [List.length_cons, Nat.add_sub_cancel]
    exact List.take_length
theorem step_at {i : Int} (h0 : 0 ≤ i) (h1 : i < 6) : ∃ s, atI [V.int 0, .int 1, .int 1, .int 2, .int 5, .int (10 ^ (25 : Int).toNat)] i = some (.int s) ∧ 0 ≤ s ∧ s ≤ 10 ^ 25 := by
  have h : i = 0 ∨ i = 1 ∨ i = 2 ∨ i = 3 ∨ i = 4 ∨ i = 5 := by omega
  rcases h with rfl | rfl | rfl | rfl | rfl | rfl
  · exact ⟨0, rfl, by decide, by decide⟩
  · exact ⟨1, rfl, by decide, by decide⟩
  · exact ⟨1, rfl, by decide, by decide⟩
  · exact ⟨2, rfl, by decide, by decide⟩
  · exact ⟨5, rfl, by decide, by decide⟩
  · exact ⟨10 ^ (25 : Int).toNat, rfl, by decide, by decide⟩
theorem nm_at {n1 n2 n3 n4 : V} {i : Int} (h0 : 0 ≤ i) (h1 : i < 4) (a : HV n1) (b : HV n2) (c : HV n3) (d : HV n4) : ∃ v, atI [n1, n2, n3, n4] i = some v ∧ HV v := by
  have h : i = 0 ∨ i = 1 ∨ i = 2 ∨ i = 3 := by omega
  rcases h with rfl | rfl | rfl | rfl
  · exact ⟨n1, rfl, a⟩
  · exact ⟨n2, rfl, b⟩
  · exact ⟨n3, rfl, c⟩
  · exact ⟨n4, rfl, d⟩
theorem int_at {ns : List Int} {i : Nat} {x : V} (h : (ns.map V.int)[i]? = some x) : ∃ c, ns[i]? = some c ∧ x = .int c := by
  rw [List.getElem?_map] at h
  cases q : ns[i]? with
  | none => rw [q] at h; cases h
  | some e => rw [q] at h; exact ⟨e, rfl, (Option.some.inj h).symm⟩
/-! ### the pair of lists that tells a line -/
def ToldAt (H : Hp) (t lc lh : Addr) (v : V) (ps : List (Int × V)) : Prop :=
  H t = some (.tup [.ref lc, .ref lh]) ∧ H lc = some (.lst ((cuts ps).map V.int)) ∧ H lh = some (.lst (holds v ps))
theorem ToldAt.same {H H' : Hp} {t lc lh : Addr} {v : V} {ps : List (Int × V)} (s : Same H H') (h : ToldAt H t lc lh v ps) : ToldAt H' t lc lh v ps := ⟨s _ _ h.1, s _ _ h.2.1, s _ _ h.2.2⟩
/-- a line whose lists are new since H -/
def LineNew (C : Addr) (H H' : Hp) (p : Addr) (cs : List Int) (hs : List V) : Prop :=
  ∃ dx lc lh, H lc = none ∧ H lh = none ∧ H' p = some (.ins C dx (lineFs lc lh)) ∧ H' lc = some (.lst (cs.map V.int)) ∧ H' lh = some (.lst hs)
theorem LineNew.at {C : Addr} {H H' : Hp} {p : Addr} {cs : List Int} {hs : List V} (h : LineNew C H H' p cs hs) : LineAt C H' p cs hs := by
  obtain ⟨dx, lc, lh, _, _, a, b, c⟩ := h
  exact ⟨dx, lc, lh, a, b, c⟩
/-! ### the program -/
section
variable (K : PySem.W.Frag) (C : Addr)
def sp_Line_init : Sp := fun vs H Q _ => ∃ (p dx lc lh : Addr), vs = [.ref p, .ref lc, .ref lh] ∧ H p = some (.ins C dx []) ∧ Q .non (upd H p (.ins C dx (lineFs lc lh)))
def sp_line_of : Sp := fun vs H Q _ => ∃ (a b : Addr) (v : V) (ps : List (Int × V)) (eq : V → V → Bool), vs = [.ref a, .ref b] ∧ SqL K H a ((cuts ps).map V.int) ∧ SqL K H b (holds v ps) ∧ ps.length ≤ 1000 ∧ (∀ x ∈ holds v ps, ∀ y ∈ holds v ps, NeOk K H x y (eq x y)) ∧
  ∀ (H' : Hp) (p : Addr), H p = none → Same H H' → LineNew C H H' p (cuts (keepB eq v ps)) (holds v (keepB eq v ps)) → Q (.ref p) H'
def sp_empty_line : Sp := fun vs H Q _ => vs = [] ∧ ∀ (H' : Hp) (p : Addr), H p = none → Same H H' → LineAt C H' p [] [.non] → Q (.ref p) H'
def sp_value_at : Sp := fun vs H Q _ => ∃ (p : Addr) (v : V) (ps : List (Int × V)) (x : Int), vs = [.ref p, .int x] ∧ LineAt C H p (cuts ps) (holds v ps) ∧ Srt ps ∧ ∀ H', Same H H' → Q (at_ v ps x) H'
theorem g_Line {E : XK} {Q : VK} {H : Hp} {p1 p2 : Addr} {cs : List Int} {hs : List V} (e1 : H p1 = some (.lst (cs.map V.int))) (e2 : H p2 = some (.lst hs))
    (k : ∀ (H' : Hp) (p dx : Addr), H p = none → Same H H' → H' p = some (.ins C dx (lineFs p1 p2)) → Q (.ref p) H') : kMake C (sp_Line_init C) E Q [.ref p1, .ref p2] H := fun x dx nx ndx ne => by
  refine ⟨x, dx, p1, p2, rfl, upd_same, rfl, ?_⟩
  rw [upd_upd]
  have s : Same H (upd (upd H dx (.own x)) x (.ins C dx (lineFs p1 p2))) := fun b o e => by
    rw [upd_ne (ne_of_none e nx), upd_ne (ne_of_none e ndx)]
    exact e
  exact k _ x dx nx s upd_same
/-! ### the laws' helpers -/
def sp_law_cell_at : Sp := fun vs H Q _ => ∃ (a : Addr) (ns : List Int) (k : Nat), vs = [.ref a, .int k] ∧ SqL K H a (ns.map V.int) ∧ Q (.int (ns.getD k 0)) H
def sp_law_names : Sp := fun vs H Q _ => ∃ c : Int, vs = [.int c] ∧ ∀ (H' : Hp) (p : Addr) (a b d : Str), H p = none → Same H H' → Word a → Word b → Word d → H' p = some (.lst [.non, .str a, .str b, .str d]) → Q (.ref p) H'
def sp_law_whole : Sp := fun vs H Q _ => ∃ i : Int, vs = [.int i] ∧ Q (.bl true) H
def sp_law_held : Sp := fun vs H Q _ => ∃ v : V, vs = [v, v] ∧ HV v ∧ Q (.bl true) H
def sp_law_line : Sp := fun vs H Q _ => ∃ (p t lc lh : Addr) (v : V) (ps : List (Int × V)), vs = [.ref p, .ref t] ∧ LineAt C H p (cuts ps) (holds v ps) ∧ ToldAt H t lc lh v ps ∧ AllHV v ps ∧ ps.length ≤ 1000 ∧ ∀ H', Same H H' → Q (.bl true) H'
/-- what is told of cells: cuts that don't fall, from -20 to 20 on, steps to 10^25 -/
structure Told (n : Nat) (v : V) (ps : List (Int × V)) : Prop where
  len : ps.length ≤ n
  srt : Srt ps
  hv : AllHV v ps
  lo : ∀ p ∈ ps, -20 ≤ p.1
  hi : ∀ p ∈ ps, p.1 ≤ 20 + 10 ^ 25 * (n : Int)
def sp_law_told : Sp := fun vs H Q _ => ∃ (a b : Addr) (ns : List Int) (n1 n2 n3 n4 : V), vs = [.ref a, .ref b] ∧ SqL K H a (ns.map V.int) ∧ SqL K H b [n1, n2, n3, n4] ∧ HV n1 ∧ HV n2 ∧ HV n3 ∧ HV n4 ∧ ns.length ≤ 1000 ∧
  ∀ (H' : Hp) (t lc lh : Addr) (v : V) (ps : List (Int × V)), H t = none → H lc = none → H lh = none → lc ≠ lh → Same H H' → ToldAt H' t lc lh v ps → Told (ns.length - 1) v ps → Q (.ref t) H'
def sp_law_at : Sp := fun vs H Q _ => ∃ (t lc lh : Addr) (v : V) (ps : List (Int × V)) (x : Int), vs = [.ref t, .int x] ∧ ToldAt H t lc lh v ps ∧ ps.length ≤ 1000 ∧ ∀ H', Same H H' → Q (at_ v ps x) H'
def sp_law_form : Sp := fun vs H Q _ => ∃ (t lc lh : Addr) (v : V) (ps : List (Int × V)), vs = [.ref t] ∧ ToldAt H t lc lh v ps ∧ AllHV v ps ∧ Srt ps ∧ ps.length ≤ 1000 ∧
  ∀ (H' : Hp) (u mc mh : Addr), H u = none → H mc = none → H mh = none → mc ≠ mh → Same H H' → ToldAt H' u mc mh v (keep v ps) → Q (.ref u) H'
/-- same(one, other) of two lines told -/
def sp_same : Sp := fun vs H Q _ => ∃ (p q : Addr) (v u : V) (ps qs : List (Int × V)), vs = [.ref p, .ref q] ∧ LineAt C H p (cuts ps) (holds v ps) ∧ LineAt C H q (cuts qs) (holds u qs) ∧ AllHV v ps ∧ AllHV u qs ∧
  ∀ H', Same H H' → Q (.bl (decide (cuts ps = cuts qs ∧ holds v ps = holds u qs))) H'
end
/-! ### deep == of lists of ints, of holds -/
def dV : V → PyData
  | .int i => .int i
  | .str z => .str z
  | .bl b => .bool b
  | _ => .none
theorem HV.dp {K : PySem.W.Frag} {H : Hp} {v : V} (h : HV v) : Dp K H v (dV v) := by
  rcases h with rfl | ⟨z, _, rfl⟩
  · exact .non
  · exact .str z
theorem dpa_ints {K : PySem.W.Frag} {H : Hp} : ∀ ns : List Int, DpAll K H (ns.map V.int) (ns.map PyData.int)
  | [] => .nil
  | n :: r => .cons (.int n) (dpa_ints r)
theorem dpa_hvs {K : PySem.W.Frag} {H : Hp} : ∀ {vs : List V}, (∀ v ∈ vs, HV v) → DpAll K H vs (vs.map dV)
  | [], _ => .nil
  | v :: r, h => .cons (h v List.mem_cons_self).dp (dpa_hvs fun w hw => h w (List.mem_cons_of_mem _ hw))
/-- data that == takes: no deeper than n -/
def Sh (d : PyData) (n : Nat) : Prop := d.canLay0 = true ∧ d.depth ≤ n
def ShA (ds : List PyData) (n : Nat) : Prop := PyData.canLayAll0 ds = true ∧ PyData.depthAll ds ≤ n
theorem Sh.ok {d : PyData} {n : Nat} (h : Sh d n) (hn : n ≤ 64) : SeqAt.shaped d = true := by
  unfold SeqAt.shaped
  rw [h.1, decide_eq_true (Nat.le_trans h.2 hn)]
  rfl
theorem sh_int (i : Int) (n : Nat) : Sh (.int i) n := ⟨by simp only [PyData.canLay0], by simp only [PyData.depth]; exact Nat.zero_le _⟩
theorem sh_none (n : Nat) : Sh .none n := ⟨by simp only [PyData.canLay0], by simp only [PyData.depth]; exact Nat.zero_le _⟩
theorem sh_bool (b : Bool) (n : Nat) : Sh (.bool b) n := ⟨by simp only [PyData.canLay0], by simp only [PyData.depth]; exact Nat.zero_le _⟩
theorem word_ok {z : Str} (h : ∀ c ∈ z.cps.toList, 97 ≤ c ∧ c ≤ 122) : PyData.strOk z = true := by
  unfold PyData.strOk
  refine Array.all_eq_true_iff_forall_mem.mpr fun c hc => ?_
  have := h c (Array.mem_toList_iff.mpr hc)
  exact decide_eq_true (by omega)
theorem sh_str {z : Str} (h : PyData.strOk z = true) (n : Nat) : Sh (.str z) n := ⟨by simp only [PyData.canLay0]; exact h, by simp only [PyData.depth]; exact Nat.zero_le _⟩
theorem HV.sh {v : V} (h : HV v) (n : Nat) : Sh (dV v) n := by
  rcases h with rfl | ⟨z, hz, rfl⟩
  · exact sh_none n
  · exact sh_str (word_ok hz.2.2) n
theorem sha_nil (n : Nat) : ShA [] n := ⟨by simp only [PyData.canLayAll0], by simp only [PyData.depthAll]; exact Nat.zero_le _⟩
theorem sha_cons {d : PyData} {ds : List PyData} {n : Nat} (h : Sh d n) (t : ShA ds n) : ShA (d :: ds) n := ⟨by simp only [PyData.canLayAll0]; rw [h.1, t.1]; rfl, by simp only [PyData.depthAll]; exact Nat.max_le.mpr ⟨h.2, t.2⟩⟩
theorem sha_all {n : Nat} : ∀ {ds : List PyData}, (∀ d ∈ ds, Sh d n) → ShA ds n
  | [], _ => sha_nil n
  | d :: ds, h => sha_cons (h d List.mem_cons_self) (sha_all fun e he => h e (List.mem_cons_of_mem _ he))
theorem sh_list {ds : List PyData} {n : Nat} (h : ShA ds n) : Sh (.list ds) (n + 1) := ⟨by simp only [PyData.canLay0]; exact h.1, by simp only [PyData.depth]; exact Nat.succ_le_succ h.2⟩
theorem sh_tup {ds : List PyData} {n : Nat} (h : ShA ds n) : Sh (.tuple ds) (n + 1) := ⟨by simp only [PyData.canLay0]; exact h.1, by simp only [PyData.depth]; exact Nat.succ_le_succ h.2⟩
theorem sha_ints (ns : List Int) (n : Nat) : ShA (ns.map PyData.int) n := sha_all fun d hd => by
  obtain ⟨i, _, rfl⟩ := List.mem_map.mp hd
  exact sh_int i n
theorem sha_hvs {vs : List V} (h : ∀ v ∈ vs, HV v) (n : Nat) : ShA (vs.map dV) n := sha_all fun d hd => by
  obtain ⟨v, hv, rfl⟩ := List.mem_map.mp hd
  exact (h v hv).sh n
/-! what == tells -/
theorem eqv_list (xs ys : List PyData) : PyData.eqv (.list xs) (.list ys) = PyData.eqvAll xs ys := by simp only [PyData.eqv]
theorem eqv_tup (xs ys : List PyData) : PyData.eqv (.tuple xs) (.tuple ys) = PyData.eqvAll xs ys := by simp only [PyData.eqv]
theorem eqva_cons (x y : PyData) (xs ys : List PyData) : PyData.eqvAll (x :: xs) (y :: ys) = (PyData.eqv x y && PyData.eqvAll xs ys) := by simp only [PyData.eqvAll]
theorem eqva_nil : PyData.eqvAll [] [] = true := by simp only [PyData.eqvAll]
theorem dec_and {p q : Prop} [Decidable p] [Decidable q] : (decide p && decide q) = decide (p ∧ q) := by
  by_cases h : p <;> by_cases h' : q <;> simp [h, h']
theorem eqva_ints : ∀ ns ms : List Int, PyData.eqvAll (ns.map PyData.int) (ms.map PyData.int) = decide (ns = ms)
  | [], [] => by simp only [List.map_nil, PyData.eqvAll]; rfl
  | [], m :: ms => by simp only [List.map_nil, List.map_cons, PyData.eqvAll]; rfl
  | n :: ns, [] => by simp only [List.map_nil, List.map_cons, PyData.eqvAll]; rfl
  | n :: ns, m :: ms => by
    rw [List.map_cons, List.map_cons, eqva_cons, eqva_ints ns ms]
    have e : PyData.eqv (.int n) (.int m) = decide (n = m) := by simp only [PyData.eqv]; exact Bool.beq_eq_decide_eq n m
    rw [e, dec_and]
    simp
theorem eqv_hv {v u : V} (h : HV v) (h' : HV u) : PyData.eqv (dV v) (dV u) = decide (v = u) := by
  rcases h with rfl | ⟨z, _, rfl⟩ <;> rcases h' with rfl | ⟨y, _, rfl⟩
  · simp only [dV, PyData.eqv]; rfl
  · simp only [dV, PyData.eqv]; rfl
  · simp only [dV, PyData.eqv]; rfl
  · simp only [dV, PyData.eqv]
    rw [dS]
    exact Bool.beq_eq_decide_eq z y
theorem eqva_hvs : ∀ {vs us : List V}, (∀ v ∈ vs, HV v) → (∀ u ∈ us, HV u) → PyData.eqvAll (vs.map dV) (us.map dV) = decide (vs = us)
  | [], [], _, _ => by simp only [List.map_nil, PyData.eqvAll]; rfl
  | [], m :: ms, _, _ => by simp only [List.map_nil, List.map_cons, PyData.eqvAll]; rfl
  | n :: ns, [], _, _ => by simp only [List.map_nil, List.map_cons, PyData.eqvAll]; rfl
  | n :: ns, m :: ms, h, h' => by
    rw [List.map_cons, List.map_cons, eqva_cons, eqva_hvs (fun w hw => h w (List.mem_cons_of_mem _ hw)) (fun w hw => h' w (List.mem_cons_of_mem _ hw)), eqv_hv (h n List.mem_cons_self) (h' m List.mem_cons_self), dec_and]
    simp
/-- a list of ints, of holds, as data -/
theorem dp_ints {K : PySem.W.Frag} {H : Hp} {a : Addr} {ns : List Int} (h : SqL K H a (ns.map V.int)) : Dp K H (.ref a) (.list (ns.map PyData.int)) := .lst h (dpa_ints ns)
theorem dp_hvs {K : PySem.W.Frag} {H : Hp} {a : Addr} {vs : List V} (h : SqL K H a vs) (hv : ∀ v ∈ vs, HV v) : Dp K H (.ref a) (.list (vs.map dV)) := .lst h (dpa_hvs hv)
theorem sh_lints (ns : List Int) : Sh (.list (ns.map PyData.int)) 1 := sh_list (sha_ints ns 0)
theorem sh_lhvs {vs : List V} (h : ∀ v ∈ vs, HV v) : Sh (.list (vs.map dV)) 1 := sh_list (sha_hvs h 0)
/-- the pair that tells a line, as data -/
abbrev dTold (v : V) (ps : List (Int × V)) : List PyData := [.list ((cuts ps).map PyData.int), .list ((holds v ps).map dV)]
theorem dpa_told {K : PySem.W.Frag} {H : Hp} {lc lh : Addr} {v : V} {ps : List (Int × V)} (h1 : SqL K H lc ((cuts ps).map V.int)) (h2 : SqL K H lh (holds v ps)) (hv : AllHV v ps) : DpAll K H [.ref lc, .ref lh] (dTold v ps) :=
  .cons (dp_ints h1) (.cons (dp_hvs h2 hv) .nil)
theorem sha_told {v : V} {ps : List (Int × V)} (hv : AllHV v ps) : ShA (dTold v ps) 1 := sha_cons (sh_lints _) (sha_cons (sh_lhvs hv) (sha_nil 1))
theorem eqva_told {v u : V} {ps qs : List (Int × V)} (hv : AllHV v ps) (hu : AllHV u qs) : PyData.eqvAll (dTold v ps) (dTold u qs) = decide (cuts ps = cuts qs ∧ holds v ps = holds u qs) := by
  rw [eqva_cons, eqva_cons, eqva_nil, eqv_list, eqv_list, eqva_ints, eqva_hvs hv hu, Bool.and_true, dec_and]
theorem told_eq {α : Type} {v u : α} {ps qs : List (Int × α)} : (cuts ps = cuts qs ∧ holds v ps = holds u qs) ↔ (v = u ∧ ps = qs) := by
  constructor
  · rintro ⟨h1, h2⟩
    have h3 := List.cons.inj h2
    refine ⟨h3.1, ?_⟩
    have hl : ps.length = qs.length := by have := congrArg List.length h1; simpa [cuts] using this
    refine List.ext_getElem hl fun i a b => ?_
    have c1 : (cuts ps)[i]? = (cuts qs)[i]? := by rw [h1]
    have c2 : (ps.map (·.2))[i]? = (qs.map (·.2))[i]? := by rw [h3.2]
    rw [List.getElem?_map, List.getElem?_map, List.getElem?_eq_getElem a, List.getElem?_eq_getElem b] at c1 c2
    exact Prod.ext (Option.some.inj c1) (Option.some.inj c2)
  · rintro ⟨rfl, rfl⟩
    exact ⟨rfl, rfl⟩
theorem AllHV.keep {v : V} {ps : List (Int × V)} (h : AllHV v ps) : AllHV v (keep v ps) := fun x hx => by
  rcases List.mem_cons.mp hx with e | e
  · rw [e]; exact h _ List.mem_cons_self
  · obtain ⟨p, hp, rfl⟩ := List.mem_map.mp e
    exact h _ (List.mem_cons_of_mem _ (List.mem_map.mpr ⟨p, keepB_mem hp, rfl⟩))
theorem AllHV.ne {K : PySem.W.Frag} {H : Hp} {v : V} {ps : List (Int × V)} (h : AllHV v ps) : ∀ x ∈ holds v ps, ∀ y ∈ holds v ps, NeOk K H x y (decide (x = y)) := fun x hx y hy => .flat (h x hx) (h y hy)
/-- one hold changed -/
theorem set_hold {α : Type} {v h : α} {ps : List (Int × α)} {j : Nat} (hj : j < (holds v ps).length) : ∃ v' ps', (holds v ps).set j h = holds v' ps' ∧ cuts ps' = cuts ps ∧ ∀ x ∈ holds v' ps', x = h ∨ x ∈ holds v ps := by
  cases j with
  | zero => exact ⟨h, ps, rfl, rfl, fun x hx => by
      rcases List.mem_cons.mp hx with e | e
      · exact .inl e
      · exact .inr (List.mem_cons_of_mem _ e)⟩
  | succ k =>
    have hk : k < ps.length := by simp [holds] at hj; omega
    have e : (holds v ps).set (k + 1) h = holds v (ps.set k (ps[k].1, h)) := by
      show v :: (ps.map (·.2)).set k h = v :: (ps.set k (ps[k].1, h)).map (·.2)
      rw [List.map_set]
    refine ⟨v, ps.set k (ps[k].1, h), e, ?_, fun x hx => ?_⟩
    · show (ps.set k (ps[k].1, h)).map (·.1) = ps.map (·.1)
      rw [List.map_set]
      show (ps.map (·.1)).set k ps[k].1 = ps.map (·.1)
      have e2 : ps[k].1 = (ps.map (·.1))[k]'(by rw [List.length_map]; exact hk) := by rw [List.getElem_map]
      rw [e2, List.set_getElem_self]
    · rw [← e] at hx
      rcases List.mem_or_eq_of_mem_set hx with z | z
      · exact .inr z
      · exact .inl z
theorem srt_cuts {α β : Type} {ps : List (Int × α)} {qs : List (Int × β)} (e : cuts qs = cuts ps) (h : Srt ps) : Srt qs := by
  have h1 : (cuts ps).Pairwise (· ≤ ·) := List.pairwise_map.mpr h
  rw [← e] at h1
  exact List.pairwise_map.mp h1
theorem len_cuts {α β : Type} {ps : List (Int × α)} {qs : List (Int × β)} (e : cuts qs = cuts ps) : qs.length = ps.length := by
  have := congrArg List.length e
  simpa [cuts] using this
/-- what a law promises -/
def sp_law (K : PySem.W.Frag) : Sp := fun vs H Q _ => ∃ (a : Addr) (ns : List Int), vs = [.ref a] ∧ SqL K H a (ns.map V.int) ∧ ns.length ≤ 63 ∧ ∀ H', Q (.bl true) H'
end Cut
/-! promises of the deeds and their laws' helpers -/
namespace Cut
open PySem PySem.Spec PyProof.Rows L2 Wk
def optV : Option Int → V
  | none => .non
  | some i => .int i
/-- a deed as a tuple -/
def deedT : Deed V → List V
  | .put s e w => [.str "put", optV s, optV e, w]
  | .opn p n => [.str "open", .int p, .int n]
  | .cls p n => [.str "close", .int p, .int n]
  | .str t => [.str "stretch", .int t]
def DOk : Deed V → Prop
  | .put _ _ w => HV w
  | .opn _ n => 0 ≤ n
  | .cls _ n => 0 ≤ n
  | .str t => 1 ≤ t ∧ t ≤ 3
theorem DOk.ok {d : Deed V} (h : DOk d) : d.ok := by
  cases d with
  | put s e w => exact True.intro
  | opn p n => exact h
  | cls p n => exact h
  | str t => exact h.1
theorem w_pp : decide (("put" : Str) = "put") = true := by decide +kernel
theorem w_op : decide (("open" : Str) = "put") = false := by decide +kernel
theorem w_oo : decide (("open" : Str) = "open") = true := by decide +kernel
theorem w_cp : decide (("close" : Str) = "put") = false := by decide +kernel
theorem w_co : decide (("close" : Str) = "open") = false := by decide +kernel
theorem w_cc : decide (("close" : Str) = "close") = true := by decide +kernel
theorem w_sp : decide (("stretch" : Str) = "put") = false := by decide +kernel
theorem w_so : decide (("stretch" : Str) = "open") = false := by decide +kernel
theorem w_sc : decide (("stretch" : Str) = "close") = false := by decide +kernel
theorem w_ss : decide (("stretch" : Str) = "stretch") = true := by decide +kernel
theorem w_po : decide (("put" : Str) = "open") = false := by decide +kernel
theorem w_pc : decide (("put" : Str) = "close") = false := by decide +kernel
theorem w_ps : decide (("put" : Str) = "stretch") = false := by decide +kernel
theorem w_os : decide (("open" : Str) = "stretch") = false := by decide +kernel
theorem w_oc : decide (("open" : Str) = "close") = false := by decide +kernel
theorem w_cs : decide (("close" : Str) = "stretch") = false := by decide +kernel
theorem cutFrom {xs : List V} {k : Int} {n : Nat} (e : k = (n : Int)) : cutV xs (some k) none = xs.drop n := by
  subst e
  unfold cutV
  rw [HT.sIx_nat, HT.sIx_none]
  rcases Nat.le_total n xs.length with h | h
  · rw [Nat.min_eq_left h, List.take_of_length_le (by rw [List.length_drop]; omega)]
  · rw [Nat.min_eq_right h, List.drop_length, List.drop_eq_nil_of_le h, List.take_nil]
theorem cutTo {xs : List V} {k : Int} {n : Nat} (e : k = (n : Int)) : cutV xs none (some k) = xs.take n := by
  subst e
  unfold cutV
  rw [HT.sIx_nat, show HT.sIx xs.length 0 none = 0 from rfl, List.drop_zero, Nat.sub_zero]
  rcases Nat.le_total n xs.length with h | h
  · rw [Nat.min_eq_left h]
  · rw [Nat.min_eq_right h, List.take_length, List.take_of_length_le h]
theorem cutMid {xs : List V} {a b : Nat} : cutV xs (some (a : Int)) (some (b : Int)) = (xs.drop a).take (b - a) := by
  unfold cutV
  rw [HT.sIx_nat, HT.sIx_nat]
  rcases Nat.le_total a xs.length with h | h
  · rw [Nat.min_eq_left h]
    rcases Nat.le_total b xs.length with h2 | h2
    · rw [Nat.min_eq_left h2]
    · rw [Nat.min_eq_right h2, List.take_of_length_le (by rw [List.length_drop]; omega), List.take_of_length_le (by rw [List.length_drop]; omega)]
  · rw [Nat.min_eq_right h, List.drop_length, List.drop_eq_nil_of_le h, List.take_nil, List.take_nil]
/-! what the deeds tell, as lists -/
theorem putPs_cuts {v w : V} {ps : List (Int × V)} {s e : Option Int} : cuts (putPs v ps w s e).2 = (match s with | none => [] | some a => cuts (lo a ps) ++ [a]) ++ (match e with | none => [] | some b => b :: cuts (hi b ps)) := by
  cases s <;> cases e <;> simp [putPs, cuts]
theorem putPs_holds {v w : V} {ps : List (Int × V)} {s e : Option Int} : holds (putPs v ps w s e).1 (putPs v ps w s e).2 = (match s with | none => [w] | some a => holds v (lo a ps) ++ [w]) ++ (match e with | none => [] | some b => at_ v ps b :: (hi b ps).map (·.2)) := by
  cases s <;> cases e <;> simp [putPs, holds]
section
variable (K : PySem.W.Frag) (C : Addr)
def sp_behind : Sp := fun vs H Q _ => ∃ (p : Addr) (v : V) (ps : List (Int × V)) (x : Int), vs = [.ref p, .int x] ∧ LineAt C H p (cuts ps) (holds v ps) ∧ Srt ps ∧ ps.length ≤ 1000 ∧
  ∀ (H' : Hp) (t a b : Addr), H t = none → H a = none → H b = none → Same H H' → H' t = some (.tup [.ref a, .ref b]) → H' a = some (.lst ((cuts (hi x ps)).map V.int)) → H' b = some (.lst ((hi x ps).map (·.2))) → Q (.ref t) H'
def sp_ahead : Sp := fun vs H Q _ => ∃ (p : Addr) (v : V) (ps : List (Int × V)) (x : Int), vs = [.ref p, .int x] ∧ LineAt C H p (cuts ps) (holds v ps) ∧ Srt ps ∧ ps.length ≤ 1000 ∧
  ∀ (H' : Hp) (t a b : Addr), H t = none → H a = none → H b = none → Same H H' → H' t = some (.tup [.ref a, .ref b]) → H' a = some (.lst ((cuts (lo x ps)).map V.int)) → H' b = some (.lst (holds v (lo x ps))) → Q (.ref t) H'
/-- a line stands in its one form -/
structure LineOk (H : Hp) (p : Addr) (v : V) (ps : List (Int × V)) : Prop where
  at' : LineAt C H p (cuts ps) (holds v ps)
  ris : Ris ps
  nrm : Nrm v ps
  hv : AllHV v ps
theorem LineOk.same {C : Addr} {H H' : Hp} {p : Addr} {v : V} {ps : List (Int × V)} (s : Same H H') (h : LineOk C H p v ps) : LineOk C H' p v ps := ⟨h.at'.same s, h.ris, h.nrm, h.hv⟩
def DoneK (H : Hp) (Q : VK) (v : V) (ps : List (Int × V)) (d : Deed V) : Prop := ∀ (H' : Hp) (p' : Addr) (v' : V) (ps' : List (Int × V)), H p' = none → Same H H' → LineOk C H' p' v' ps' → ps'.length ≤ ps.length + 2 → (∀ x, at_ v' ps' x = back .non (at_ v ps) d x) → Q (.ref p') H'
/-- what line_of makes of it -/
theorem done_keep {C : Addr} {H H' : Hp} {p : Addr} {v : V} {ps : List (Int × V)} (hl : LineNew C H H' p (cuts (keep v ps)) (holds v (keep v ps))) (hs : Srt ps) (hv : AllHV v ps) : LineOk C H' p v (keep v ps) :=
  ⟨hl.at, keep_ris hs, keep_nrm ps v, hv.keep⟩
def sp_put : Sp := fun vs H Q _ => ∃ (p : Addr) (v : V) (ps : List (Int × V)) (s e : Option Int) (w : V), vs = [.ref p, optV s, optV e, w] ∧ LineOk C H p v ps ∧ HV w ∧ ps.length ≤ 900 ∧ DoneK C H Q v ps (.put s e w)
def sp_opened : Sp := fun vs H Q _ => ∃ (p : Addr) (v : V) (ps : List (Int × V)) (x n : Int), vs = [.ref p, .int x, .int n] ∧ LineOk C H p v ps ∧ 0 ≤ n ∧ ps.length ≤ 900 ∧ DoneK C H Q v ps (.opn x n)
def sp_closed : Sp := fun vs H Q _ => ∃ (p : Addr) (v : V) (ps : List (Int × V)) (x n : Int), vs = [.ref p, .int x, .int n] ∧ LineOk C H p v ps ∧ 0 ≤ n ∧ ps.length ≤ 900 ∧ DoneK C H Q v ps (.cls x n)
def sp_stretched : Sp := fun vs H Q _ => ∃ (p : Addr) (v : V) (ps : List (Int × V)) (t : Int), vs = [.ref p, .int t] ∧ LineOk C H p v ps ∧ 1 ≤ t ∧ t ≤ 3 ∧ ps.length ≤ 900 ∧ DoneK C H Q v ps (.str t)
def sp_done : Sp := fun vs H Q _ => ∃ (p a : Addr) (v : V) (ps : List (Int × V)) (d : Deed V), vs = [.ref p, .ref a] ∧ LineOk C H p v ps ∧ H a = some (.tup (deedT d)) ∧ DOk d ∧ ps.length ≤ 900 ∧ DoneK C H Q v ps d
def sp_carried : Sp := fun vs H Q _ => ∃ (a : Addr) (d : Deed V) (x : Int), vs = [.int x, .ref a] ∧ H a = some (.tup (deedT d)) ∧ DOk d ∧ ∀ H', Same H H' → Q (.int (moved d x)) H'
/-! the laws' -/
def sp_law_deed : Sp := fun vs H Q _ => ∃ (a : Addr) (i j : Int) (n1 n2 n3 n4 : V), vs = [.int i, .int j, .ref a] ∧ SqL K H a [n1, n2, n3, n4] ∧ HV n1 ∧ HV n2 ∧ HV n3 ∧ HV n4 ∧
  ∀ (H' : Hp) (t : Addr) (d : Deed V), H t = none → Same H H' → H' t = some (.tup (deedT d)) → DOk d → Q (.ref t) H'
def sp_law_edges_behind : Sp := fun vs H Q _ => ∃ (a b : Addr) (es : List Int) (d : Deed V), vs = [.ref a, .ref b] ∧ H a = some (.lst (es.map V.int)) ∧ H b = some (.tup (deedT d)) ∧ DOk d ∧ es.length ≤ 1000 ∧
  ∀ (H' : Hp) (q : Addr), H q = none → Same H H' → H' q = some (.lst ((edges es d).map V.int)) → Q (.ref q) H'
def sp_law_back : Sp := fun vs H Q _ => ∃ (t lc lh b : Addr) (v : V) (ps : List (Int × V)) (d : Deed V) (x : Int), vs = [.ref t, .ref b, .int x] ∧ ToldAt H t lc lh v ps ∧ H b = some (.tup (deedT d)) ∧ DOk d ∧ ps.length ≤ 1000 ∧
  ∀ H', Same H H' → Q (back .non (at_ v ps) d x) H'
def sp_law_image : Sp := fun vs H Q _ => ∃ (t lc lh b : Addr) (v : V) (ps : List (Int × V)) (d : Deed V), vs = [.ref t, .ref b] ∧ ToldAt H t lc lh v ps ∧ AllHV v ps ∧ H b = some (.tup (deedT d)) ∧ DOk d ∧ ps.length ≤ 900 ∧
  ∀ (H' : Hp) (u mc mh : Addr) (v' : V) (ps' : List (Int × V)), H u = none → Same H H' → ToldAt H' u mc mh v' ps' → Ris ps' → Nrm v' ps' → AllHV v' ps' → ps'.length ≤ ps.length + 2 → (∀ x, at_ v' ps' x = back .non (at_ v ps) d x) → Q (.ref u) H'
def sp_law_by_name : Sp := sp_done C
/-- a row of deeds -/
def DeedsAt (H : Hp) (a : Addr) (ds : List (Deed V)) : Prop := ∃ as : List Addr, H a = some (.lst (as.map V.ref)) ∧ as.length = ds.length ∧ ∀ (i : Nat) b d, as[i]? = some b → ds[i]? = some d → H b = some (.tup (deedT d)) ∧ DOk d
theorem DeedsAt.same {H H' : Hp} {a : Addr} {ds : List (Deed V)} (s : Same H H') (h : DeedsAt H a ds) : DeedsAt H' a ds := by
  obtain ⟨as, h1, h2, h3⟩ := h
  exact ⟨as, s _ _ h1, h2, fun i b d e1 e2 => ⟨s _ _ (h3 i b d e1 e2).1, (h3 i b d e1 e2).2⟩⟩
theorem DeedsAt.all {H : Hp} {a : Addr} {ds : List (Deed V)} (h : DeedsAt H a ds) : ∀ d ∈ ds, DOk d := fun d hd => by
  obtain ⟨as, h1, h2, h3⟩ := h
  obtain ⟨i, hi, e⟩ := List.getElem_of_mem hd
  exact (h3 i as[i] d (List.getElem?_eq_getElem (by omega)) (by rw [List.getElem?_eq_getElem hi, e])).2
theorem deeds_of {H : Hp} : ∀ (ys : List V), (∀ y ∈ ys, ∃ b d, y = V.ref b ∧ H b = some (.tup (deedT d)) ∧ DOk d) → ∃ (as : List Addr) (ds : List (Deed V)), ys = as.map V.ref ∧ as.length = ds.length ∧ ∀ (i : Nat) b d, as[i]? = some b → ds[i]? = some d → H b = some (.tup (deedT d)) ∧ DOk d
  | [], _ => ⟨[], [], rfl, rfl, fun i b d h => by simp at h⟩
  | y :: ys, h => by
    obtain ⟨b, d, rfl, h1, h2⟩ := h y List.mem_cons_self
    obtain ⟨as, ds, rfl, h4, h5⟩ := deeds_of ys fun z hz => h z (List.mem_cons_of_mem _ hz)
    refine ⟨b :: as, d :: ds, rfl, by rw [List.length_cons, List.length_cons, h4], fun i c e e1 e2 => ?_⟩
    cases i with
    | zero =>
      cases Option.some.inj e1
      cases Option.some.inj e2
      exact ⟨h1, h2⟩
    | succ i => exact h5 i c e e1 e2
theorem after_hv : ∀ (n : Nat) (ds : List (Deed V)), ds.length = n → (∀ d ∈ ds, DOk d) → ∀ x, HV (after .non ds x)
  | 0, ds, hl, _, x => by
    rw [List.length_eq_zero_iff.mp hl]
    exact .inl rfl
  | n + 1, ds, hl, h, x => by
    have hne : ds ≠ [] := fun z => by rw [z] at hl; cases hl
    rw [← List.dropLast_concat_getLast hne, after_snoc]
    exact back_val (.inl rfl) (after_hv n _ (by rw [List.length_dropLast, hl]; rfl) fun d hd => h d (List.dropLast_subset _ hd)) (fun s e w hw => by
      have := h _ (List.getLast_mem hne)
      rw [hw] at this
      exact this) x
theorem len_edgesAll : ∀ (n : Nat) (ds : List (Deed V)), ds.length = n → (edgesAll ds).length ≤ 2 * n
  | 0, ds, hl => by
    rw [List.length_eq_zero_iff.mp hl]
    exact Nat.le_refl 0
  | n + 1, ds, hl => by
    have hne : ds ≠ [] := fun z => by rw [z] at hl; cases hl
    rw [← List.dropLast_concat_getLast hne, edgesAll_snoc]
    have h1 := len_edgesAll n ds.dropLast (by rw [List.length_dropLast, hl]; rfl)
    have h2 := len_edges (es := edgesAll ds.dropLast) (d := ds.getLast hne)
    omega
def sp_law_deeds : Sp := fun vs H Q _ => ∃ (a b : Addr) (ns : List Int) (n1 n2 n3 n4 : V), vs = [.ref a, .ref b] ∧ SqL K H a (ns.map V.int) ∧ SqL K H b [n1, n2, n3, n4] ∧ HV n1 ∧ HV n2 ∧ HV n3 ∧ HV n4 ∧ ns.length ≤ 1000 ∧
  ∀ (H' : Hp) (q : Addr) (ds : List (Deed V)), H q = none → Same H H' → DeedsAt H' q ds → ds.length = ns.length / 2 → Q (.ref q) H'
def sp_law_value : Sp := fun vs H Q _ => ∃ (a : Addr) (ds : List (Deed V)) (x : Int), vs = [.ref a, .int x] ∧ DeedsAt H a ds ∧ ∀ H', Same H H' → Q (after .non ds x) H'
def sp_law_edges : Sp := fun vs H Q _ => ∃ (a : Addr) (ds : List (Deed V)), vs = [.ref a] ∧ DeedsAt H a ds ∧ ds.length ≤ 400 ∧
  ∀ (H' : Hp) (q : Addr) (es : List Int), H q = none → Same H H' → H' q = some (.lst (es.map V.int)) → es.Pairwise (· < ·) → Steps (after .non ds) es → es.length ≤ 2 * ds.length → Q (.ref q) H'
def sp_law_due : Sp := fun vs H Q _ => ∃ (a : Addr) (ds : List (Deed V)), vs = [.ref a] ∧ DeedsAt H a ds ∧ ds.length ≤ 400 ∧
  ∀ (H' : Hp) (u mc mh : Addr) (v' : V) (ps' : List (Int × V)), H u = none → Same H H' → ToldAt H' u mc mh v' ps' → Ris ps' → Nrm v' ps' → AllHV v' ps' → ps'.length ≤ 2 * ds.length → (∀ x, at_ v' ps' x = after .non ds x) → Q (.ref u) H'
def sp_law_carried : Sp := fun vs H Q _ => ∃ (a : Addr) (d : Deed V) (x : Int), vs = [.ref a, .int x] ∧ H a = some (.tup (deedT d)) ∧ DOk d ∧ ∀ H', Same H H' → Q (.int (moved d x)) H'
def sp_law_stays : Sp := fun vs H Q _ => ∃ (a : Addr) (d : Deed V) (x : Int), vs = [.ref a, .int x] ∧ H a = some (.tup (deedT d)) ∧ DOk d ∧ ∀ H', Same H H' → Q (.bl (stays d x)) H'
end
end Cut
/-! promises of the asks and their laws' helpers -/
namespace Wk
open PySem PySem.Spec PyProof.Rows L2
theorem ixN_last {n : Nat} (h : 0 < n) : ixN n (-1) = some (n - 1) := by
  unfold ixN
  rw [if_neg (by omega), if_pos (by omega)]
  congr 1
  omega
theorem TupsAt.nil {H : Hp} {a : Addr} (h : H a = some (.lst [])) : TupsAt H a [] := ⟨[], h, rfl, fun i b x e => by simp at e⟩
theorem TupsAt.list {H : Hp} {a : Addr} {xs : List (List V)} (h : TupsAt H a xs) : ∃ as : List Addr, H a = some (.lst (as.map V.ref)) ∧ as.length = xs.length := by
  obtain ⟨as, h1, h2, _⟩ := h
  exact ⟨as, h1, h2⟩
theorem TupsAt.push {H' : Hp} {a b : Addr} {as : List Addr} {xs : List (List V)} {x : List V} (h1 : as.length = xs.length) (h2 : ∀ (i : Nat) b x, as[i]? = some b → xs[i]? = some x → H' b = some (.tup x)) (e : H' a = some (.lst (as.map V.ref ++ [V.ref b]))) (hb : H' b = some (.tup x)) : TupsAt H' a (xs ++ [x]) := by
  refine ⟨as ++ [b], by rw [e, List.map_append] <;> rfl, by rw [List.length_append, List.length_append, h1] <;> rfl, fun i c y e1 e2 => ?_⟩
  by_cases hi : i < as.length
  · rw [List.getElem?_append_left hi] at e1
    rw [List.getElem?_append_left (by omega)] at e2
    exact h2 i c y e1 e2
  · have hi2 : i = as.length := by
      have := (List.getElem?_eq_some_iff.mp e1).1
      rw [List.length_append, List.length_singleton] at this
      omega
    subst hi2
    rw [List.getElem?_append_right (Nat.le_refl _), Nat.sub_self] at e1
    rw [List.getElem?_append_right (by omega), h1, Nat.sub_self] at e2
    cases Option.some.inj e1
    cases Option.some.inj e2
    exact hb
theorem TupsAt.snoc {H : Hp} {a : Addr} {xs : List (List V)} {x : List V} (h : TupsAt H a (xs ++ [x])) : ∃ (as : List Addr) (b : Addr), H a = some (.lst (as.map V.ref ++ [V.ref b])) ∧ H b = some (.tup x) ∧ as.length = xs.length ∧ ∀ (i : Nat) c y, as[i]? = some c → xs[i]? = some y → H c = some (.tup y) := by
  obtain ⟨as, h1, h2, h3⟩ := h
  rw [List.length_append, List.length_singleton] at h2
  have hne : as ≠ [] := fun z => by rw [z] at h2; simp at h2
  obtain ⟨as, b, rfl⟩ : ∃ as0 b, as = as0 ++ [b] := ⟨as.dropLast, as.getLast hne, (List.dropLast_concat_getLast hne).symm⟩
  have hl : as.length = xs.length := by rw [List.length_append, List.length_singleton] at h2; omega
  refine ⟨as, b, by rw [h1, List.map_append] <;> rfl, ?_, hl, fun i c y e1 e2 => ?_⟩
  · refine h3 xs.length _ x ?_ (by rw [List.getElem?_append_right (Nat.le_refl _), Nat.sub_self] <;> rfl)
    rw [List.getElem?_append_right (by omega), hl, Nat.sub_self] <;> rfl
  · have hi := (List.getElem?_eq_some_iff.mp e2).1
    refine h3 i c y ?_ ?_
    · rw [List.getElem?_append_left (by omega)]
      exact e1
    · rw [List.getElem?_append_left hi]
      exact e2
end Wk
namespace Cut
open PySem PySem.Spec PyProof.Rows L2 Wk
/-! ### values that == takes -/
def Flat (v : V) : Prop := v = .non ∨ (∃ z, PyData.strOk z = true ∧ v = .str z) ∨ ∃ i, v = .int i
theorem HV.flat {v : V} (h : HV v) : Flat v := by
  rcases h with rfl | ⟨z, hz, rfl⟩
  · exact .inl rfl
  · exact .inr (.inl ⟨z, word_ok hz.2.2, rfl⟩)
theorem Flat.scal {v w : V} (h : Flat v) (h' : Flat w) : scal v w = true := by
  rcases h with rfl | ⟨z, _, rfl⟩ | ⟨i, rfl⟩ <;> rcases h' with rfl | ⟨y, _, rfl⟩ | ⟨j, rfl⟩ <;> rfl
theorem Flat.dp {K : PySem.W.Frag} {H : Hp} {v : V} (h : Flat v) : Dp K H v (dV v) := by
  rcases h with rfl | ⟨z, _, rfl⟩ | ⟨i, rfl⟩
  · exact .non
  · exact .str z
  · exact .int i
theorem Flat.sh {v : V} (h : Flat v) (n : Nat) : Sh (dV v) n := by
  rcases h with rfl | ⟨z, hz, rfl⟩ | ⟨i, rfl⟩
  · exact sh_none n
  · exact sh_str hz n
  · exact sh_int i n
theorem eqv_int (i j : Int) : PyData.eqv (.int i) (.int j) = decide (i = j) := by simp only [PyData.eqv]; exact Bool.beq_eq_decide_eq i j
theorem eqv_flat {v u : V} (h : Flat v) (h' : Flat u) : PyData.eqv (dV v) (dV u) = decide (v = u) := by
  rcases h with rfl | ⟨z, _, rfl⟩ | ⟨i, rfl⟩ <;> rcases h' with rfl | ⟨y, _, rfl⟩ | ⟨j, rfl⟩
  · simp only [dV, PyData.eqv]; rfl
  · simp only [dV, PyData.eqv]; rfl
  · simp only [dV, PyData.eqv]; rfl
  · simp only [dV, PyData.eqv]; rfl
  · simp only [dV, PyData.eqv]
    rw [dS]
    exact Bool.beq_eq_decide_eq z y
  · simp only [dV, PyData.eqv]; rfl
  · simp only [dV, PyData.eqv]; rfl
  · simp only [dV, PyData.eqv]; rfl
  · simp only [dV, eqv_int]
    rw [dI]
abbrev AllFlat (v : V) (ps : List (Int × V)) : Prop := ∀ x ∈ holds v ps, Flat x
theorem AllHV.flat {v : V} {ps : List (Int × V)} (h : AllHV v ps) : AllFlat v ps := fun x hx => (h x hx).flat
/-! ### runs as tuples -/
abbrev Run := Int × Int × V
def runT (q : Run) : List V := [.int q.1, .int q.2.1, q.2.2]
def dRun (q : Run) : PyData := .tuple [.int q.1, .int q.2.1, dV q.2.2]
abbrev RunsAt (H : Hp) (a : Addr) (L : List Run) : Prop := TupsAt H a (L.map runT)
theorem dpa_runs {K : PySem.W.Frag} {H : Hp} : ∀ {as : List Addr} {L : List Run}, as.length = L.length → (∀ (i : Nat) b x, as[i]? = some b → (L.map runT)[i]? = some x → H b = some (.tup x)) → (∀ q ∈ L, Flat q.2.2) → DpAll K H (as.map V.ref) (L.map dRun)
  | [], [], _, _, _ => .nil
  | [], _ :: _, h, _, _ => by cases h
  | _ :: _, [], h, _, _ => by cases h
  | a :: as, q :: L, h, h2, h3 => .cons (.tup (SqT.of (h2 0 a (runT q) rfl rfl)) (.cons (.int _) (.cons (.int _) (.cons (h3 q List.mem_cons_self).dp .nil)))) (dpa_runs (Nat.succ.inj h) (fun i b x e1 e2 => h2 (i + 1) b x e1 e2) fun r hr => h3 r (List.mem_cons_of_mem _ hr))
theorem dp_runs {K : PySem.W.Frag} {H : Hp} {a : Addr} {L : List Run} (h : RunsAt H a L) (hf : ∀ q ∈ L, Flat q.2.2) : Dp K H (.ref a) (.list (L.map dRun)) := by
  obtain ⟨as, h1, h2, h3⟩ := h
  exact .lst (SqL.of h1) (dpa_runs (by rw [h2, List.length_map]) h3 hf)
theorem sh_runs {L : List Run} (hf : ∀ q ∈ L, Flat q.2.2) : Sh (.list (L.map dRun)) 2 := sh_list (sha_all fun d hd => by
  obtain ⟨q, hq, rfl⟩ := List.mem_map.mp hd
  exact sh_tup (sha_cons (sh_int _ 0) (sha_cons (sh_int _ 0) (sha_cons ((hf q hq).sh 0) (sha_nil 0)))))
theorem eqva_runs_nil : ∀ L : List Run, PyData.eqvAll (L.map dRun) [] = decide (L = [])
  | [] => by simp only [List.map_nil, PyData.eqvAll]; rfl
  | q :: L => by simp only [List.map_cons, PyData.eqvAll]; rfl
/-- the first of the longest runs of v -/
def longStep (v : V) (best : Option (Int × Int)) (q : Run) : Option (Int × Int) := if decide (q.2.2 = v) && (match best with | none => true | some b => decide (q.2.1 - q.1 > b.2)) then some (q.1, q.2.1 - q.1) else best
def longF (v : V) (L : List Run) : Option (Int × Int) := L.foldl (longStep v) none
def BestAt (H : Hp) (u : V) : Option (Int × Int) → Prop
  | none => u = .non
  | some (s, n) => ∃ t, u = .ref t ∧ H t = some (.tup [.int s, .int n])
theorem BestAt.same {H H' : Hp} {u : V} {b : Option (Int × Int)} (s : Same H H') (h : BestAt H u b) : BestAt H' u b := by
  cases b with
  | none => exact h
  | some b =>
    obtain ⟨t, h1, h2⟩ := h
    exact ⟨t, h1, s _ _ h2⟩
def tallyF (v : V) (L : List Run) : Int := ((L.filter fun q => decide (q.2.2 = v)).map fun q => q.2.1 - q.1).sum
/-- the runs from s to e -/
def RunsOf (f : Int → V) (s e : Int) (R : List Run) : Prop := if e ≤ s then R = [] else Rv f s e R
theorem RunsOf.uniq {f : Int → V} {s e : Int} {R R' : List Run} (h : RunsOf f s e R) (h' : RunsOf f s e R') : R = R' := by
  unfold RunsOf at h h'
  by_cases z : e ≤ s
  · rw [if_pos z] at h h'
    rw [h, h']
  · rw [if_neg z] at h h'
    exact rv_uniq h h'
theorem RunsOf.flat {f : Int → V} {s e : Int} {R : List Run} (h : RunsOf f s e R) (hf : ∀ x, Flat (f x)) : ∀ q ∈ R.reverse, Flat q.2.2 := fun q hq => by
  have hq := List.mem_reverse.mp hq
  unfold RunsOf at h
  by_cases z : e ≤ s
  · rw [if_pos z] at h
    rw [h] at hq
    cases hq
  · rw [if_neg z] at h
    obtain ⟨x, hx⟩ := rv_val h q hq
    rw [← hx]
    exact hf x
theorem hi_next {α : Type} {ps : List (Int × α)} {y c : Int} (h : nextCut ps y = some c) : (hi c ps).length < (hi y ps).length := by
  have e : hi c ps = hi c (hi y ps) := by
    rw [hi, hi, List.filter_filter]
    refine List.filter_congr fun p hp => ?_
    have hyc : y < c := by
      cases q : cuts (hi y ps) with
      | nil => rw [nextCut, q] at h; cases h
      | cons d r =>
        rw [nextCut, q] at h
        cases Option.some.inj h
        have : c ∈ cuts (hi y ps) := by rw [q]; exact List.mem_cons_self
        obtain ⟨p, hp, rfl⟩ := List.mem_map.mp this
        exact hi_lt hp
    by_cases z : c < p.1
    · rw [decide_eq_true z, decide_eq_true (show y < p.1 by omega)] <;> rfl
    · rw [decide_eq_false z] <;> rfl
  cases q : hi y ps with
  | nil => rw [nextCut, q] at h; cases h
  | cons p r =>
    have hc : p.1 = c := by rw [nextCut, q] at h; exact Option.some.inj h
    rw [e, q, hi, List.filter_cons, if_neg (by rw [hc]; simp)]
    exact Nat.lt_succ_of_le (List.length_filter_le _ _)
/-- a pair that tells a line, as a value -/
def PairAt (B : Hp) (x : V) (v : V) (ps : List (Int × V)) : Prop := ∃ t a b, x = .ref t ∧ ToldAt B t a b v ps
theorem PairAt.dp {K : PySem.W.Frag} {B : Hp} {x v : V} {ps : List (Int × V)} (h : PairAt B x v ps) (hv : AllHV v ps) : Dp K B x (.tuple (dTold v ps)) := by
  obtain ⟨t, a, b, rfl, h1, h2, h3⟩ := h
  exact .tup (SqT.of h1) (dpa_told (SqL.of h2) (SqL.of h3) hv)
theorem PairAt.same {B B' : Hp} {x v : V} {ps : List (Int × V)} (s : Same B B') (h : PairAt B x v ps) : PairAt B' x v ps := by
  obtain ⟨t, a, b, e, h⟩ := h
  exact ⟨t, a, b, e, h.same s⟩
theorem ne_nil_len {ps : List (Int × V)} (h : (!decide (cuts ps = [])) = true) : 0 < ps.length := by
  cases ps with
  | nil => cases h
  | cons p r => simp
/-- the last cut further off -/
theorem set_last {v : V} {ps : List (Int × V)} {k : Int} (h : 0 < ps.length) (hk : 0 ≤ k) (hs : Srt ps) : ∃ c ps', atI ((cuts ps).map V.int) (-1) = some (.int c) ∧ ((cuts ps).map V.int).set (ps.length - 1) (.int (c + k)) = (cuts ps').map V.int ∧ holds v ps' = holds v ps ∧ Srt ps' ∧ ps'.length = ps.length := by
  have hne : ps ≠ [] := fun z => by rw [z] at h; cases h
  obtain ⟨r, p, rfl⟩ : ∃ r p, ps = r ++ [p] := ⟨ps.dropLast, ps.getLast hne, (List.dropLast_concat_getLast hne).symm⟩
  obtain ⟨c, g⟩ := p
  refine ⟨c, r ++ [(c + k, g)], ?_, ?_, ?_, ?_, by simp⟩
  · rw [cuts_app, List.map_append]
    exact atI_last _ _
  · rw [cuts_app, List.map_append, cuts_app, List.map_append, List.length_append, List.length_singleton, Nat.add_sub_cancel, List.set_append_right _ _ (by rw [List.length_map, List.length_map]; exact Nat.le_refl _), List.length_map, List.length_map, Nat.sub_self] <;> rfl
  · rw [holds_app, holds_app]
  · obtain ⟨h1, h2, h3⟩ := List.pairwise_append.mp hs
    refine List.pairwise_append.mpr ⟨h1, List.pairwise_singleton _ _, fun a ha b hb => ?_⟩
    have := h3 a ha (c, g) List.mem_cons_self
    rw [List.mem_singleton.mp hb]
    show a.1 ≤ c + k
    have : a.1 ≤ c := this
    omega
section
variable (K : PySem.W.Frag) (C : Addr)
def sp_end_of_run : Sp := fun vs H Q _ => ∃ (p : Addr) (v : V) (ps : List (Int × V)) (x : Int), vs = [.ref p, .int x] ∧ LineAt C H p (cuts ps) (holds v ps) ∧ Srt ps ∧ ps.length ≤ 1000 ∧ ∀ H', Same H H' → Q (optV (nextCut ps x)) H'
def sp_runs : Sp := fun vs H Q _ => ∃ (p : Addr) (v : V) (ps : List (Int × V)) (s e : Int), vs = [.ref p, .int s, .int e] ∧ LineAt C H p (cuts ps) (holds v ps) ∧ Ris ps ∧ Nrm v ps ∧ ps.length ≤ 1000 ∧
  ∀ (H' : Hp) (a : Addr) (R : List Run), H a = none → Same H H' → RunsAt H' a R.reverse → RunsOf (at_ v ps) s e R → R.length ≤ ps.length + 1 → Q (.ref a) H'
def sp_tally : Sp := fun vs H Q _ => ∃ (p : Addr) (v : V) (ps : List (Int × V)) (s e : Int) (u : V), vs = [.ref p, u, .int s, .int e] ∧ LineAt C H p (cuts ps) (holds v ps) ∧ Ris ps ∧ Nrm v ps ∧ ps.length ≤ 1000 ∧ AllFlat v ps ∧ Flat u ∧
  ∀ (H' : Hp) (R : List Run), Same H H' → RunsOf (at_ v ps) s e R → Q (.int (tallyF u R.reverse)) H'
def sp_longest : Sp := fun vs H Q _ => ∃ (p : Addr) (v : V) (ps : List (Int × V)) (s e : Int) (u : V), vs = [.ref p, u, .int s, .int e] ∧ LineAt C H p (cuts ps) (holds v ps) ∧ Ris ps ∧ Nrm v ps ∧ ps.length ≤ 1000 ∧ AllFlat v ps ∧ Flat u ∧
  ∀ (H' : Hp) (R : List Run) (b : V), Same H H' → RunsOf (at_ v ps) s e R → BestAt H' b (longF u R.reverse) → Q b H'
def sp_first_room (D : Addr) : Sp := fun vs H Q E => ∃ (p : Addr) (v : V) (ps : List (Int × V)) (u : V) (x n : Int), vs = [.ref p, u, .int x, .int n] ∧ LineAt C H p (cuts ps) (holds v ps) ∧ Ris ps ∧ Nrm v ps ∧ ps.length ≤ 1000 ∧ AllFlat v ps ∧ Flat u ∧
  ((n < 1 ∧ E (.ref D) none H) ∨ (1 ≤ n ∧ ∀ (H' : Hp) (r : Option Int), Same H H' → IsRoom (at_ v ps) u x n r → Q (optV r) H'))
/-- a promise of True -/
def sp_yes (N : List V → Hp → Prop) : Sp := fun vs H Q _ => N vs H ∧ ∀ H', Same H H' → Q (.bl true) H'
def sp_parted : Sp := fun vs H Q _ => ∃ (p q : Addr) (v u : V) (ps qs : List (Int × V)) (x : Int), vs = [.ref p, .ref q, .int x] ∧ LineAt C H p (cuts ps) (holds v ps) ∧ LineAt C H q (cuts qs) (holds u qs) ∧ Srt ps ∧ Srt qs ∧ ps.length ≤ 1000 ∧ qs.length ≤ 1000 ∧ AllFlat v ps ∧ AllFlat u qs ∧
  ∀ (H' : Hp) (r : Option Int), Same H H' → IsPart (at_ v ps) (at_ u qs) x r → Q (optV r) H'
/-! the laws' -/
def sp_law_runs : Sp := fun vs H Q _ => ∃ (t lc lh : Addr) (v : V) (ps : List (Int × V)) (s e : Int), vs = [.ref t, .int s, .int e] ∧ ToldAt H t lc lh v ps ∧ AllFlat v ps ∧ ps.length ≤ 1000 ∧
  ∀ (H' : Hp) (a : Addr) (R : List Run), H a = none → Same H H' → RunsAt H' a R.reverse → RunsOf (at_ v ps) s e R → R.length ≤ ps.length + 1 → Q (.ref a) H'
def sp_law_alike : Sp := fun vs H Q _ => ∃ (a b : Addr) (L : List Run), vs = [.ref a, .ref b] ∧ RunsAt H a L ∧ RunsAt H b L ∧ (∀ q ∈ L, HV q.2.2) ∧ L.length ≤ 2000 ∧ ∀ H', Same H H' → Q (.bl true) H'
def sp_law_longest : Sp := fun vs H Q _ => ∃ (a : Addr) (L : List Run) (u : V), vs = [.ref a, u] ∧ RunsAt H a L ∧ (∀ q ∈ L, Flat q.2.2) ∧ Flat u ∧ ∀ (H' : Hp) (b : V), Same H H' → BestAt H' b (longF u L) → Q b H'
def sp_law_end : Sp := fun vs H Q _ => ∃ (t lc lh : Addr) (v : V) (ps : List (Int × V)) (c : Int), vs = [.ref t, .int c] ∧ ToldAt H t lc lh v ps ∧ ps.length ≤ 1000 ∧ ∀ H' i, Same H H' → Q (.int i) H'
def sp_law_apart : Sp := fun vs H Q _ => ∃ (t lc lh t' lc' lh' : Addr) (v u : V) (ps qs : List (Int × V)) (x : Int), vs = [.ref t, .ref t', .int x] ∧ ToldAt H t lc lh v ps ∧ ToldAt H t' lc' lh' u qs ∧ ps.length ≤ 400 ∧ qs.length ≤ 400 ∧ AllFlat v ps ∧ AllFlat u qs ∧
  ∀ (H' : Hp) (r : Option Int), Same H H' → IsPart (at_ v ps) (at_ u qs) x r → Q (optV r) H'
def sp_law_refused_room : Sp := fun vs H Q _ => ∃ (p : Addr) (v : V) (ps : List (Int × V)) (u : V) (x n : Int), vs = [.ref p, u, .int x, .int n] ∧ LineAt C H p (cuts ps) (holds v ps) ∧ Ris ps ∧ Nrm v ps ∧ ps.length ≤ 1000 ∧ AllFlat v ps ∧ Flat u ∧ n < 1 ∧ ∀ H', Same H H' → Q (.bl true) H'
def sp_law_room : Sp := fun vs H Q _ => ∃ (t lc lh : Addr) (v : V) (ps : List (Int × V)) (u : V) (x n : Int), vs = [.ref t, u, .int x, .int n] ∧ ToldAt H t lc lh v ps ∧ ps.length ≤ 1000 ∧ AllFlat v ps ∧ Flat u ∧ 1 ≤ n ∧
  ∀ (H' : Hp) (r : Option Int), Same H H' → IsRoom (at_ v ps) u x n r → Q (optV r) H'
end
end Cut
/-! promises of deeds that may be refused -/
namespace Cut
open PySem PySem.Spec PyProof.Rows L2 Wk
/-- no such deed, or one that can't be done -/
def BadT (xs : List V) : Prop := (∃ p n : Int, xs = [.str "open", .int p, .int n] ∧ n < 0) ∨ (∃ p n : Int, xs = [.str "close", .int p, .int n] ∧ n < 0) ∨ (∃ t : Int, xs = [.str "stretch", .int t] ∧ t < 1) ∨
  ∃ (z : Str) (r : List V), xs = .str z :: r ∧ decide (z = "put") = false ∧ decide (z = "open") = false ∧ decide (z = "close") = false ∧ decide (z = "stretch") = false
theorem back_opn0 {α : Type} {o : α} {f : Int → α} {p x : Int} : back o f (.opn p 0) x = f x := by
  rw [back_opn, Int.add_zero, Int.sub_zero]
  by_cases h : x < p
  · rw [if_pos h]
  · rw [if_neg h, if_neg h]
theorem back_cls0 {α : Type} {o : α} {f : Int → α} {p x : Int} : back o f (.cls p 0) x = f x := by
  rw [back_cls, Int.add_zero]
  split <;> rfl
theorem back_str1 {α : Type} {o : α} {f : Int → α} {x : Int} : back o f (.str 1) x = f x := by
  show f (x / 1) = f x
  rw [Int.ediv_one]
theorem bad_word {i : Int} (h0 : 0 ≤ i) (h1 : i < 6) : ∃ z, atI [V.str "", .str "Put", .str "opens", .str "mark", .str "shut", .str "stretch "] i = some (.str z) ∧ decide (z = "put") = false ∧ decide (z = "open") = false ∧ decide (z = "close") = false ∧ decide (z = "stretch") = false := by
  have h : i = 0 ∨ i = 1 ∨ i = 2 ∨ i = 3 ∨ i = 4 ∨ i = 5 := by omega
  rcases h with rfl | rfl | rfl | rfl | rfl | rfl
  · exact ⟨_, rfl, by decide +kernel, by decide +kernel, by decide +kernel, by decide +kernel⟩
  · exact ⟨_, rfl, by decide +kernel, by decide +kernel, by decide +kernel, by decide +kernel⟩
  · exact ⟨_, rfl, by decide +kernel, by decide +kernel, by decide +kernel, by decide +kernel⟩
  · exact ⟨_, rfl, by decide +kernel, by decide +kernel, by decide +kernel, by decide +kernel⟩
  · exact ⟨_, rfl, by decide +kernel, by decide +kernel, by decide +kernel, by decide +kernel⟩
  · exact ⟨_, rfl, by decide +kernel, by decide +kernel, by decide +kernel, by decide +kernel⟩
section
variable (C D : Addr)
def sp_openedX : Sp := fun vs H Q E => ∃ (p : Addr) (v : V) (ps : List (Int × V)) (x n : Int), vs = [.ref p, .int x, .int n] ∧ LineOk C H p v ps ∧ ps.length ≤ 900 ∧ ((n < 0 ∧ E (.ref D) none H) ∨ (0 ≤ n ∧ DoneK C H Q v ps (.opn x n)))
def sp_closedX : Sp := fun vs H Q E => ∃ (p : Addr) (v : V) (ps : List (Int × V)) (x n : Int), vs = [.ref p, .int x, .int n] ∧ LineOk C H p v ps ∧ ps.length ≤ 900 ∧ ((n < 0 ∧ E (.ref D) none H) ∨ (0 ≤ n ∧ DoneK C H Q v ps (.cls x n)))
def sp_stretchedX : Sp := fun vs H Q E => ∃ (p : Addr) (v : V) (ps : List (Int × V)) (t : Int), vs = [.ref p, .int t] ∧ LineOk C H p v ps ∧ ps.length ≤ 900 ∧ ((t < 1 ∧ E (.ref D) none H) ∨ (1 ≤ t ∧ t ≤ 3 ∧ DoneK C H Q v ps (.str t)))
def sp_doneX : Sp := fun vs H Q E => ∃ (p a : Addr) (v : V) (ps : List (Int × V)), vs = [.ref p, .ref a] ∧ LineOk C H p v ps ∧ ps.length ≤ 900 ∧
  ((∃ xs, H a = some (.tup xs) ∧ BadT xs ∧ E (.ref D) none H) ∨ ∃ d, H a = some (.tup (deedT d)) ∧ DOk d ∧ DoneK C H Q v ps d)
def sp_law_refused_deed : Sp := fun vs H Q _ => ∃ (p a : Addr) (v : V) (ps : List (Int × V)) (xs : List V), vs = [.ref p, .ref a] ∧ LineOk C H p v ps ∧ ps.length ≤ 900 ∧ H a = some (.tup xs) ∧ BadT xs ∧ ∀ H', Same H H' → Q (.bl true) H'
def sp_law_refused_by_name : Sp := fun vs H Q _ => ∃ (p : Addr) (v : V) (ps : List (Int × V)) (k x n : Int), vs = [.ref p, .int k, .int x, .int n] ∧ LineOk C H p v ps ∧ ps.length ≤ 900 ∧ n < 0 ∧ 0 ≤ k ∧ k < 3 ∧ ∀ H', Same H H' → Q (.bl true) H'
end
end Cut
/-! promises of lines laid on one another -/
namespace Cut
open PySem PySem.Spec PyProof.Rows L2 Wk
theorem AllFlat.ne {K : PySem.W.Frag} {H : Hp} {v : V} {ps : List (Int × V)} (h : AllFlat v ps) : ∀ x ∈ holds v ps, ∀ y ∈ holds v ps, NeOk K H x y (decide (x = y)) := fun x hx y hy _ _ _ q => g_neV ((h x hx).scal (h y hy)) q
theorem AllFlat.keep {v : V} {ps : List (Int × V)} (h : AllFlat v ps) : AllFlat v (keep v ps) := fun x hx => by
  rcases List.mem_cons.mp hx with e | e
  · rw [e]; exact h _ List.mem_cons_self
  · obtain ⟨p, hp, rfl⟩ := List.mem_map.mp e
    exact h _ (List.mem_cons_of_mem _ (List.mem_map.mpr ⟨p, keepB_mem hp, rfl⟩))
/-- 1 where both are the same, else 0 -/
def alikeV (x y : V) : V := .int (if decide (x = y) then 1 else 0)
theorem alikeV_flat (x y : V) : Flat (alikeV x y) := .inr (.inr ⟨_, rfl⟩)
/-- two lines' cuts together -/
theorem steps_both {f g : Int → V} {G : V → V → V} {es fs hs : List Int} (hf : Steps f es) (hg : Steps g fs) (h : ∀ k, k ∈ hs ↔ k ∈ es ++ fs) : Steps (fun x => G (f x) (g x)) hs := fun x y hxy hx => by
  show G (f x) (g x) = G (f y) (g y)
  rw [hf x y hxy fun e he => hx e ((h e).mpr (List.mem_append_left _ he)), hg x y hxy fun e he => hx e ((h e).mpr (List.mem_append_right _ he))]
theorem lo_both {G : V → V → V} {v u : V} {ps qs : List (Int × V)} {hs : List Int} (h : ∀ k, k ∈ hs ↔ k ∈ cuts ps ++ cuts qs) (x : Int) (hx : ∀ e ∈ hs, x < e) : G (at_ v ps x) (at_ u qs x) = G v u := by
  rw [at_lo fun p hp => hx _ ((h _).mpr (List.mem_append_left _ (List.mem_map.mpr ⟨p, hp, rfl⟩))), at_lo fun p hp => hx _ ((h _).mpr (List.mem_append_right _ (List.mem_map.mpr ⟨p, hp, rfl⟩)))]
section
variable (K : PySem.W.Frag) (C : Addr)
/-- joined by the way that f is, which makes G of two values -/
def sp_joined (f : Addr) (G : V → V → V) : Sp := fun vs H Q _ => ∃ (p q : Addr) (v u : V) (ps qs : List (Int × V)), vs = [.ref p, .ref q, .ref f] ∧ LineAt C H p (cuts ps) (holds v ps) ∧ LineAt C H q (cuts qs) (holds u qs) ∧ Srt ps ∧ Srt qs ∧ ps.length ≤ 400 ∧ qs.length ≤ 400 ∧ AllFlat v ps ∧ AllFlat u qs ∧
  ∀ (H' : Hp) (r : Addr) (v' : V) (ps' : List (Int × V)), H r = none → Same H H' → LineAt C H' r (cuts ps') (holds v' ps') → Ris ps' → Nrm v' ps' → AllFlat v' ps' → ps'.length ≤ ps.length + qs.length → (∀ x, at_ v' ps' x = G (at_ v ps x) (at_ u qs x)) → Q (.ref r) H'
def sp_alike_by : Sp := fun vs H Q _ => ∃ x y : V, vs = [x, y] ∧ Flat x ∧ Flat y ∧ ∀ H', Same H H' → Q (alikeV x y) H'
def sp_law_both : Sp := fun vs H Q _ => ∃ (t lc lh t' lc' lh' : Addr) (v u : V) (ps qs : List (Int × V)), vs = [.ref t, .ref t'] ∧ ToldAt H t lc lh v ps ∧ ToldAt H t' lc' lh' u qs ∧ ps.length ≤ 400 ∧ qs.length ≤ 400 ∧ AllFlat v ps ∧ AllFlat u qs ∧
  ∀ (H' : Hp) (r mc mh : Addr) (v' : V) (ps' : List (Int × V)), H r = none → Same H H' → ToldAt H' r mc mh v' ps' → Srt ps' → AllFlat v' ps' → ps'.length ≤ ps.length + qs.length → (∀ x, at_ v' ps' x = alikeV (at_ v ps x) (at_ u qs x)) → Q (.ref r) H'
def sp_law_told15 : Sp := fun vs H Q _ => ∃ x y : V, vs = [x, y] ∧ ((x = .non ∧ y = .non) ∨ (∃ i, x = .int i ∧ y = .int i) ∨ ∃ s n, ∃ t1 t2, x = .ref t1 ∧ y = .ref t2 ∧ H t1 = some (.tup [.int s, .int n]) ∧ H t2 = some (.tup [.int s, .int n])) ∧ ∀ H', Same H H' → Q (.bl true) H'
def sp_law_parts : Sp := fun vs H Q _ => ∃ (a b : Addr) (L : List Run), vs = [.ref a, .ref b] ∧ RunsAt H a L ∧ RunsAt H b L ∧ (∀ q ∈ L, Flat q.2.2) ∧ L.length ≤ 2000 ∧ ∀ H', Same H H' → Q (.bl true) H'
def sp_law_asked : Sp := fun vs H Q _ => ∃ (p t lc lh : Addr) (v u : V) (ps qs : List (Int × V)) (s e n : Int) (x : V), vs = [.ref p, .ref t, .int s, .int e, x, .int n] ∧ LineAt C H p (cuts ps) (holds v ps) ∧ Ris ps ∧ Nrm v ps ∧ ps.length ≤ 1000 ∧ AllFlat v ps ∧
  ToldAt H t lc lh u qs ∧ AllFlat u qs ∧ qs.length ≤ 1000 ∧ (∀ x, at_ v ps x = at_ u qs x) ∧ Flat x ∧ 1 ≤ n ∧ ∀ H', Same H H' → Q (.bl true) H'
def sp_first_room0 : Sp := fun vs H Q _ => ∃ (p : Addr) (v : V) (ps : List (Int × V)) (u : V) (x n : Int), vs = [.ref p, u, .int x, .int n] ∧ LineAt C H p (cuts ps) (holds v ps) ∧ Ris ps ∧ Nrm v ps ∧ ps.length ≤ 1000 ∧ AllFlat v ps ∧ Flat u ∧ 1 ≤ n ∧ ∀ (H' : Hp) (r : Option Int), Same H H' → IsRoom (at_ v ps) u x n r → Q (optV r) H'
end
end Cut
/-! woven lines -/
namespace Cut
section
variable {α β : Type}
abbrev mapH (g : α → β) (ps : List (Int × α)) : List (Int × β) := ps.map fun p => (p.1, g p.2)
theorem dup_map (g : α → β) {c : Int} : ∀ {r : List (Int × α)}, dup c (mapH g r) = dup c r
  | [] => rfl
  | (d, h) :: r => rfl
theorem keepB_map [DecidableEq β] (g : α → β) : ∀ (ps : List (Int × α)) (v : α), mapH g (keepB (fun a b => decide (g a = g b)) v ps) = keep (g v) (mapH g ps)
  | [], _ => rfl
  | (c, h) :: r, v => by
    show _ = keepB _ (g v) ((c, g h) :: mapH g r)
    unfold keepB
    rw [dup_map]
    split
    · exact keepB_map g r v
    · split
      · exact keepB_map g r v
      · show (c, g h) :: mapH g _ = _
        rw [keepB_map g r h]
theorem at_mapH (g : α → β) {x : Int} : ∀ {ps : List (Int × α)} {v : α}, at_ (g v) (mapH g ps) x = g (at_ v ps x)
  | [], _ => rfl
  | (c, h) :: r, v => by
    show at_ (if c ≤ x then g h else g v) (mapH g r) x = g (at_ (if c ≤ x then h else v) r x)
    rw [← at_mapH g (ps := r)]
    congr 1
    split <;> rfl
theorem cuts_mapH (g : α → β) (ps : List (Int × α)) : cuts (mapH g ps) = cuts ps := by
  show (ps.map _).map _ = ps.map _
  rw [List.map_map] <;> rfl
theorem holds_mapH (g : α → β) (v : α) (ps : List (Int × α)) : holds (g v) (mapH g ps) = (holds v ps).map g := by
  show g v :: (ps.map _).map _ = g v :: (ps.map _).map _
  rw [List.map_map, List.map_map] <;> rfl
theorem lt_ext : ∀ {l m : List Int}, l.Pairwise (· < ·) → m.Pairwise (· < ·) → (∀ k, k ∈ l ↔ k ∈ m) → l = m
  | [], [], _, _, _ => rfl
  | [], y :: m, _, _, h => absurd ((h y).mpr List.mem_cons_self) (fun z => nomatch z)
  | x :: l, [], _, _, h => absurd ((h x).mp List.mem_cons_self) (fun z => nomatch z)
  | x :: l, y :: m, hl, hm, h => by
    obtain ⟨a1, a2⟩ := List.pairwise_cons.mp hl
    obtain ⟨b1, b2⟩ := List.pairwise_cons.mp hm
    have e : x = y := by
      rcases List.mem_cons.mp ((h x).mp List.mem_cons_self) with z | z
      · exact z
      · rcases List.mem_cons.mp ((h y).mpr List.mem_cons_self) with w | w
        · exact w.symm
        · have := b1 x z
          have := a1 y w
          omega
    subst e
    rw [lt_ext a2 b2 fun k => ⟨fun hk => by
      rcases List.mem_cons.mp ((h k).mp (List.mem_cons_of_mem _ hk)) with z | z
      · have := a1 k hk
        omega
      · exact z, fun hk => by
      rcases List.mem_cons.mp ((h k).mpr (List.mem_cons_of_mem _ hk)) with z | z
      · have := b1 k hk
        omega
      · exact z⟩]
theorem cut_iff {ps : List (Int × α)} {v : α} (hr : Ris ps) (hn : Nrm v ps) (c : Int) : c ∈ cuts ps ↔ at_ v ps c ≠ at_ v ps (c - 1) :=
  ⟨nrm_change hr hn c, fun h => Classical.byContradiction fun hc => h (at_steps (by omega) fun p hp => by
    by_cases z : p.1 ≤ c - 1
    · exact .inl z
    · right
      have : p.1 ≠ c := fun e => hc (List.mem_map.mpr ⟨p, hp, e⟩)
      omega).symm⟩
theorem at_of_mem : ∀ {ps : List (Int × α)} {v : α}, Ris ps → ∀ p ∈ ps, at_ v ps p.1 = p.2
  | (c, h) :: r, v, hr, p, hp => by
    obtain ⟨h1, h2⟩ := List.pairwise_cons.mp hr
    rcases List.mem_cons.mp hp with z | z
    · rw [z]
      exact at_at hr
    · have : c < p.1 := h1 p z
      rw [at_cons, if_pos (by omega)]
      exact at_of_mem h2 p z
theorem tab_of {ps : List (Int × α)} {v : α} (hr : Ris ps) : ((cuts ps).map fun e => (e, at_ v ps e)) = ps := by
  rw [show (cuts ps).map (fun e => (e, at_ v ps e)) = ps.map fun p => (p.1, at_ v ps p.1) from List.map_map]
  conv => rhs; rw [← List.map_id ps]
  refine List.map_congr_left fun p hp => ?_
  rw [at_of_mem hr p hp] <;> rfl
/-- what some lines hold at a place, all the cuts -/
abbrev Ln (α : Type) := α × List (Int × α)
def allAt (ls : List (Ln α)) (x : Int) : List α := ls.map fun l => at_ l.1 l.2 x
def allCuts (ls : List (Ln α)) : List Int := ls.flatMap fun l => cuts l.2
theorem all_steps {ls : List (Ln α)} {es : List Int} (h : ∀ k, k ∈ es ↔ k ∈ allCuts ls) : Steps (allAt ls) es := fun x y hxy hx => List.map_congr_left fun l hl => steps_at x y hxy fun e he => hx e ((h e).mpr (List.mem_flatMap.mpr ⟨l, hl, he⟩))
theorem all_lo {ls : List (Ln α)} {es : List Int} (h : ∀ k, k ∈ es ↔ k ∈ allCuts ls) (x : Int) (hx : ∀ e ∈ es, x < e) : allAt ls x = ls.map fun l => l.1 := List.map_congr_left fun l hl => at_lo fun p hp => hx _ ((h _).mpr (List.mem_flatMap.mpr ⟨l, hl, List.mem_map.mpr ⟨p, hp, rfl⟩⟩))
/-- the woven line's cuts: where some line changes -/
theorem all_cuts {ls : List (Ln α)} {M : List (Int × List α)} {W : List α} {es : List Int} (hr : ∀ l ∈ ls, Ris l.2 ∧ Nrm l.1 l.2) (hM : Ris M) (hN : Nrm W M) (hat : ∀ x, at_ W M x = allAt ls x) (hp : es.Pairwise (· < ·)) (h : ∀ k, k ∈ es ↔ k ∈ allCuts ls) : cuts M = es := by
  refine lt_ext (List.pairwise_map.mpr hM) hp fun c => ?_
  rw [cut_iff hM hN, hat, hat, h]
  constructor
  · intro hne
    refine Classical.byContradiction fun hc => hne (List.map_congr_left fun l hl => Classical.byContradiction fun hd => hc (List.mem_flatMap.mpr ⟨l, hl, (cut_iff (hr l hl).1 (hr l hl).2 c).mpr hd⟩))
  · intro hc e
    obtain ⟨l, hl, hcl⟩ := List.mem_flatMap.mp hc
    refine (cut_iff (hr l hl).1 (hr l hl).2 c).mp hcl ?_
    obtain ⟨i, hi, rfl⟩ := List.getElem_of_mem hl
    have q := congrArg (fun z => z[i]?) e
    simp only [allAt, List.getElem?_map, List.getElem?_eq_getElem hi, Option.map_some] at q
    exact Option.some.inj q
end
end Cut
/-! promises of woven lines -/
namespace Cut
open PySem PySem.Spec PyProof.Rows L2 Wk
theorem pick {δ : Type} {P : Addr → δ → Prop} : ∀ ys : List V, (∀ y ∈ ys, ∃ a d, y = V.ref a ∧ P a d) → ∃ (as : List Addr) (ds : List δ), ys = as.map V.ref ∧ as.length = ds.length ∧ ∀ (i : Nat) a d, as[i]? = some a → ds[i]? = some d → P a d
  | [], _ => ⟨[], [], rfl, rfl, fun i a d h => by simp at h⟩
  | y :: ys, h => by
    obtain ⟨a, d, rfl, h1⟩ := h y List.mem_cons_self
    obtain ⟨as, ds, rfl, h4, h5⟩ := pick ys fun z hz => h z (List.mem_cons_of_mem _ hz)
    refine ⟨a :: as, d :: ds, rfl, by rw [List.length_cons, List.length_cons, h4], fun i c e e1 e2 => ?_⟩
    cases i with
    | zero =>
      cases Option.some.inj e1
      cases Option.some.inj e2
      exact h1
    | succ i => exact h5 i c e e1 e2
theorem eqva_flats : ∀ {vs us : List V}, (∀ v ∈ vs, Flat v) → (∀ u ∈ us, Flat u) → PyData.eqvAll (vs.map dV) (us.map dV) = decide (vs = us)
  | [], [], _, _ => by simp only [List.map_nil, PyData.eqvAll]; rfl
  | [], m :: ms, _, _ => by simp only [List.map_nil, List.map_cons, PyData.eqvAll]; rfl
  | n :: ns, [], _, _ => by simp only [List.map_nil, List.map_cons, PyData.eqvAll]; rfl
  | n :: ns, m :: ms, h, h' => by
    rw [List.map_cons, List.map_cons, eqva_cons, eqva_flats (fun w hw => h w (List.mem_cons_of_mem _ hw)) (fun w hw => h' w (List.mem_cons_of_mem _ hw)), eqv_flat (h n List.mem_cons_self) (h' m List.mem_cons_self), dec_and]
    simp
theorem dpa_flats {K : PySem.W.Frag} {H : Hp} : ∀ {vs : List V}, (∀ v ∈ vs, Flat v) → DpAll K H vs (vs.map dV)
  | [], _ => .nil
  | v :: r, h => .cons (h v List.mem_cons_self).dp (dpa_flats fun w hw => h w (List.mem_cons_of_mem _ hw))
theorem sha_flats {vs : List V} (h : ∀ v ∈ vs, Flat v) (n : Nat) : ShA (vs.map dV) n := sha_all fun d hd => by
  obtain ⟨v, hv, rfl⟩ := List.mem_map.mp hd
  exact (h v hv).sh n
/-- != of two tuples of plain values -/
theorem ne_tups {K : PySem.W.Frag} {H : Hp} {a b : Addr} {xs ys : List V} {Q : VK} (ha : H a = some (.tup xs)) (hb : H b = some (.tup ys)) (hx : ∀ v ∈ xs, Flat v) (hy : ∀ v ∈ ys, Flat v) (k : Q (.bl (!decide (xs = ys))) H) : rNeA K (.ref a) (.ref b) H Q := by
  refine Wk.g_neD (.tup (SqT.of ha) (dpa_flats hx)) (.tup (SqT.of hb) (dpa_flats hy)) ((sh_tup (sha_flats hx 0)).ok (by decide)) ((sh_tup (sha_flats hy 0)).ok (by decide)) ?_
  rw [eqv_tup, eqva_flats hx hy]
  exact k
theorem hold_is_at {α : Type} {v : α} {ps : List (Int × α)} (hr : Ris ps) {x : α} (h : x ∈ holds v ps) : ∃ z, at_ v ps z = x := by
  rcases List.mem_cons.mp h with e | e
  · obtain ⟨z, _, hz⟩ := low ps 0
    exact ⟨z, by rw [at_lo hz, e]⟩
  · obtain ⟨p, hp, rfl⟩ := List.mem_map.mp e
    exact ⟨p.1, at_of_mem hr p hp⟩
abbrev LnV := Ln V
def LinesAt (C : Addr) (H : Hp) (as : List Addr) (ls : List LnV) : Prop := as.length = ls.length ∧ ∀ (i : Nat) b l, as[i]? = some b → ls[i]? = some l → LineOk C H b l.1 l.2
theorem LinesAt.same {C : Addr} {H H' : Hp} {as : List Addr} {ls : List LnV} (s : Same H H') (h : LinesAt C H as ls) : LinesAt C H' as ls := ⟨h.1, fun i b l e1 e2 => (h.2 i b l e1 e2).same s⟩
def FormsAt (H : Hp) (as : List Addr) (ls : List LnV) : Prop := as.length = ls.length ∧ ∀ (i : Nat) t l, as[i]? = some t → ls[i]? = some l → ∃ lc lh, ToldAt H t lc lh l.1 l.2
theorem FormsAt.same {H H' : Hp} {as : List Addr} {ls : List LnV} (s : Same H H') (h : FormsAt H as ls) : FormsAt H' as ls := ⟨h.1, fun i b l e1 e2 => by
  obtain ⟨lc, lh, T⟩ := h.2 i b l e1 e2
  exact ⟨lc, lh, T.same s⟩⟩
/-- lines as they may be woven -/
def LsOk (ls : List LnV) : Prop := ∀ l ∈ ls, Ris l.2 ∧ Nrm l.1 l.2 ∧ AllHV l.1 l.2 ∧ l.2.length ≤ 40
theorem LsOk.flat {ls : List LnV} (h : LsOk ls) (x : Int) : ∀ v ∈ allAt ls x, Flat v := fun v hv => by
  obtain ⟨l, hl, rfl⟩ := List.mem_map.mp hv
  exact ((h l hl).2.2.1 _ at_mem).flat
theorem LsOk.flat0 {ls : List LnV} (h : LsOk ls) : ∀ v ∈ ls.map (fun l => l.1), Flat v := fun v hv => by
  obtain ⟨l, hl, rfl⟩ := List.mem_map.mp hv
  exact ((h l hl).2.2.1 _ List.mem_cons_self).flat
theorem len_allCuts : ∀ {ls : List LnV}, LsOk ls → (allCuts ls).length ≤ 40 * ls.length
  | [], _ => Nat.le_refl 0
  | l :: ls, h => by
    have h1 := (h l List.mem_cons_self).2.2.2
    have h2 := len_allCuts (ls := ls) fun l hl => h l (List.mem_cons_of_mem _ hl)
    unfold allCuts at h2 ⊢
    rw [List.flatMap_cons, List.length_append, List.length_map, List.length_cons]
    omega
/-- a woven line stands at p -/
structure WovenAt (C : Addr) (H : Hp) (p : Addr) (r0 : V) (rs : List (Int × V)) (g : V → List V) (ls : List LnV) : Prop where
  at' : LineAt C H p (cuts rs) (holds r0 rs)
  tup : ∀ x ∈ holds r0 rs, ∃ t, x = .ref t ∧ H t = some (.tup (g x))
  ris : Ris rs
  nrm : Nrm (g r0) (mapH g rs)
  ats : ∀ x, at_ (g r0) (mapH g rs) x = allAt ls x
  len : rs.length ≤ 400
theorem WovenAt.same {C : Addr} {H H' : Hp} {p : Addr} {r0 : V} {rs : List (Int × V)} {g : V → List V} {ls : List LnV} (s : Same H H') (h : WovenAt C H p r0 rs g ls) : WovenAt C H' p r0 rs g ls :=
  ⟨h.at'.same s, fun x hx => by
    obtain ⟨t, e, ht⟩ := h.tup x hx
    exact ⟨t, e, s _ _ ht⟩, h.ris, h.nrm, h.ats, h.len⟩
theorem WovenAt.hold {C : Addr} {H : Hp} {p : Addr} {r0 : V} {rs : List (Int × V)} {g : V → List V} {ls : List LnV} (h : WovenAt C H p r0 rs g ls) {x : V} (hx : x ∈ holds r0 rs) : ∃ z, g x = allAt ls z := by
  obtain ⟨z, hz⟩ := hold_is_at h.ris hx
  exact ⟨z, by rw [← hz, ← at_mapH g, h.ats]⟩
theorem zip_cuts {es : List Int} {ts : List Addr} (h : ts.length = es.length) : cuts (List.zipWith (fun e t => (e, V.ref t)) es ts) = es := by
  refine List.ext_getElem (by simp [h]) fun i h1 h2 => by simp
theorem zip_holds {es : List Int} {ts : List Addr} (h : ts.length = es.length) : (List.zipWith (fun e t => (e, V.ref t)) es ts).map (·.2) = ts.map V.ref := by
  refine List.ext_getElem (by simp [h]) fun i h1 h2 => by simp
theorem zip_map {es : List Int} {ts : List Addr} {g : V → List V} {F : Int → List V} (h : ts.length = es.length) (hg : ∀ (i : Nat) t e, ts[i]? = some t → es[i]? = some e → g (.ref t) = F e) : mapH g (List.zipWith (fun e t => (e, V.ref t)) es ts) = es.map fun e => (e, F e) := by
  refine List.ext_getElem (by simp [h]) fun i h1 h2 => ?_
  rw [List.length_map] at h2
  rw [List.getElem_map, List.getElem_map, List.getElem_zipWith]
  show (es[i], g (.ref ts[i])) = (es[i], F es[i])
  rw [hg i ts[i] es[i] (List.getElem?_eq_getElem (by omega)) (List.getElem?_eq_getElem h2)]
/-- what stands at an address, as a tuple -/
def tupOf (H : Hp) (x : V) : List V := match x with
  | .ref t => (match H t with | some (.tup xs) => xs | _ => [])
  | _ => []
theorem tupOf_is {H : Hp} {t : Addr} {xs : List V} (h : H t = some (.tup xs)) : tupOf H (.ref t) = xs := by
  show (match H t with | some (.tup xs) => xs | _ => []) = xs
  rw [h]
section
variable (K : PySem.W.Frag) (C D : Addr)
def sp_wovenX : Sp := fun vs H Q E => ∃ a : Addr, vs = [.ref a] ∧ ((H a = some (.lst []) ∧ ∀ H', Same H H' → E (.ref D) none H') ∨ ∃ (as : List Addr) (ls : List LnV), H a = some (.lst (as.map V.ref)) ∧ LinesAt C H as ls ∧ 1 ≤ ls.length ∧ ls.length ≤ 8 ∧ LsOk ls ∧
  ∀ (H' : Hp) (p : Addr) (r0 : V) (rs : List (Int × V)) (g : V → List V), H p = none → Same H H' → WovenAt C H' p r0 rs g ls → Q (.ref p) H')
def sp_unwoven : Sp := fun vs H Q _ => ∃ (p : Addr) (k : Nat) (r0 : V) (rs : List (Int × V)) (g : V → List V) (ls : List LnV) (l : LnV), vs = [.ref p, .int k] ∧ WovenAt C H p r0 rs g ls ∧ LsOk ls ∧ ls[k]? = some l ∧
  ∀ (H' : Hp) (p' : Addr), H p' = none → Same H H' → LineOk C H' p' l.1 l.2 → Q (.ref p') H'
def sp_law_woven_right : Sp := fun vs H Q _ => ∃ (p b : Addr) (r0 : V) (rs : List (Int × V)) (g : V → List V) (ls : List LnV) (fs : List Addr), vs = [.ref p, .ref b] ∧ WovenAt C H p r0 rs g ls ∧ H b = some (.lst (fs.map V.ref)) ∧ FormsAt H fs ls ∧ LsOk ls ∧ ls.length ≤ 8 ∧ ∀ H', Same H H' → Q (.bl true) H'
def sp_law_refused0 : Sp := fun vs H Q _ => vs = [] ∧ ∀ H', Same H H' → Q (.bl true) H'
end
end Cut
/-! lines as texts -/
namespace Cut
open PySem PySem.Spec PyProof.Rows L2 Wk
abbrev tl (z : Str) : List Nat := TL.tl z
/-! ### whole numbers as texts -/
abbrev intS (i : Int) : Str := Str.ofString (toString i)
theorem tl_int (i : Int) : tl (intS i) = (if i < 0 then [45] else []) ++ TL.numL i.natAbs := by
  cases i with
  | ofNat n =>
    rw [if_neg (by simp)]
    exact TL.tl_num n
  | negSucc n =>
    rw [if_pos (Int.negSucc_lt_zero n)]
    show TL.tl (Str.ofString ("-" ++ toString (n + 1))) = [45] ++ TL.numL (n + 1)
    rw [TL.tl_ofString, String.toList_append, List.map_append, ← TL.tl_num (n + 1), TL.tl_ofString] <;> rfl
theorem digit_int {i : Int} {c : Nat} (h : c ∈ tl (intS i)) : c = 45 ∨ (48 ≤ c ∧ c ≤ 57) := by
  rw [tl_int] at h
  rcases List.mem_append.mp h with z | z
  · split at z
    · exact .inl (List.mem_singleton.mp z)
    · cases z
  · exact .inr (TL.numL_digits _ c z)
abbrev Far : Nat := 10 ^ 60
theorem len_int {i : Int} (h : i.natAbs < Far) : (intS i).length ≤ 61 := by
  rw [len_tl]
  have h1 := tl_int i
  have h2 := TL.numL_len (n := i.natAbs) (k := 60) (by decide) h
  show (tl (intS i)).length ≤ 61
  rw [h1, List.length_append]
  split
  · simp only [List.length_singleton]; omega
  · simp only [List.length_nil]; omega
theorem int_back {i : Int} (h : i.natAbs < Far) : PySem.intText? (intS i) = some i := by
  have hl := len_int h
  have hd := TL.numL_digits i.natAbs
  have hne := TL.numL_ne i.natAbs
  have hv := TL.numL_val i.natAbs
  have ht := tl_int i
  by_cases hi : i < 0
  · rw [if_pos hi] at ht
    rw [intText_neg (x := intS i) (cs := TL.numL i.natAbs) ht hd hne (by omega), hv]
    congr 1
    omega
  · rw [if_neg hi, List.nil_append] at ht
    rw [intText_digits (x := intS i) (by rw [show (intS i).cps.toList = _ from ht]; exact hd) (by rw [show (intS i).cps.toList = _ from ht]; exact hne) (by omega), show (intS i).cps.toList = _ from ht, hv]
    congr 1
    omega
theorem numL_head : ∀ (n : Nat), 0 < n → ∀ c, (TL.numL n).head? = some c → c ≠ 48 := by
  intro n
  induction n using Nat.strongRecOn with
  | _ n ih =>
    intro hn c hc
    by_cases h : n < 10
    · rw [TL.numL_lt h] at hc
      have := Option.some.inj hc
      omega
    · rw [TL.numL_step (by omega)] at hc
      have hne := TL.numL_ne (n / 10)
      cases e : TL.numL (n / 10) with
      | nil => exact absurd e hne
      | cons d r =>
        rw [e] at hc
        exact ih (n / 10) (by omega) (by omega) c (by rw [e]; exact hc)
theorem log_far {i : Int} (h : i.natAbs < Far) : i.natAbs.log2 < 1920 := by
  by_cases h0 : i.natAbs = 0
  · rw [h0]; decide
  · exact Nat.lt_trans ((Nat.log2_lt h0).mpr (Nat.lt_of_lt_of_le h (by decide : Far ≤ 2 ^ 200))) (by decide)
/-! ### ends, stretches -/
def endS : Option Int → Str
  | none => ""
  | some i => intS i
def EndOk : Option Int → Prop
  | none => True
  | some i => i.natAbs < Far
theorem tl_nil : tl ("" : Str) = [] := by decide +kernel
theorem end_sign {o : Option Int} {c : Nat} (h : c ∈ tl (endS o)) : c = 45 ∨ (48 ≤ c ∧ c ≤ 57) := by
  cases o with
  | none =>
    have h : c ∈ tl ("" : Str) := h
    rw [tl_nil] at h
    cases h
  | some i => exact digit_int h
theorem end_len {o : Option Int} (h : EndOk o) : (endS o).length ≤ 61 := by
  cases o with
  | none => exact (by decide +kernel : ("" : Str).length ≤ 61)
  | some i => exact len_int h
abbrev Seg := Option Int × Option Int × Str
abbrev endsS (s e : Option Int) : Str := endS s ++ ".." ++ endS e
abbrev pieceS (q : Seg) : Str := endsS q.1 q.2.1 ++ " " ++ q.2.2
def SegOk (q : Seg) : Prop := EndOk q.1 ∧ EndOk q.2.1 ∧ Word q.2.2
theorem tl_dd : tl (".." : Str) = [46, 46] := by decide +kernel
theorem tl_sp : tl (" " : Str) = [32] := by decide +kernel
theorem tl_cs : tl (", " : Str) = [44, 32] := by decide +kernel
theorem tl_ends (s e : Option Int) : tl (endsS s e) = tl (endS s) ++ [46, 46] ++ tl (endS e) := by
  show TL.tl (endS s ++ ".." ++ endS e) = _
  rw [TL.tl_append, TL.tl_append, show TL.tl (".." : Str) = _ from tl_dd]
theorem tl_piece (q : Seg) : tl (pieceS q) = tl (endsS q.1 q.2.1) ++ [32] ++ tl q.2.2 := by
  show TL.tl (endsS q.1 q.2.1 ++ " " ++ q.2.2) = _
  rw [TL.tl_append, TL.tl_append, show TL.tl (" " : Str) = _ from tl_sp]
theorem ends_sign {s e : Option Int} {c : Nat} (h : c ∈ tl (endsS s e)) : c = 45 ∨ c = 46 ∨ (48 ≤ c ∧ c ≤ 57) := by
  rw [tl_ends] at h
  rcases List.mem_append.mp h with h | h
  · rcases List.mem_append.mp h with h | h
    · rcases end_sign h with z | z
      · exact .inl z
      · exact .inr (.inr z)
    · right; left
      simpa using h
  · rcases end_sign h with z | z
    · exact .inl z
    · exact .inr (.inr z)
theorem piece_sign {q : Seg} (hq : Word q.2.2) {c : Nat} (h : c ∈ tl (pieceS q)) : c = 45 ∨ c = 46 ∨ (48 ≤ c ∧ c ≤ 57) ∨ c = 32 ∨ (97 ≤ c ∧ c ≤ 122) := by
  rw [tl_piece] at h
  rcases List.mem_append.mp h with h | h
  · rcases List.mem_append.mp h with h | h
    · rcases ends_sign h with z | z | z
      · exact .inl z
      · exact .inr (.inl z)
      · exact .inr (.inr (.inl z))
    · right; right; right; left
      simpa using h
  · exact .inr (.inr (.inr (.inr (hq.2.2 c h))))
theorem split_text {ps : List Seg} (hne : ps ≠ []) (h : ∀ q ∈ ps, SegOk q) : Txt.split (Txt.join ", " (ps.map pieceS)) ", " = ps.map pieceS :=
  TL.split_join (s := 44) (S := [32]) tl_cs (by decide +kernel) (fun e => hne (List.map_eq_nil_iff.mp e)) fun p hp => by
    obtain ⟨q, hq, rfl⟩ := List.mem_map.mp hp
    intro hc
    rcases piece_sign (h q hq).2.2 hc with z | z | z | z | z <;> omega
theorem join2 (y a b : Str) : Txt.join y [a, b] = a ++ y ++ b := by
  rw [TL.join_eq] <;> rfl
theorem split_piece {q : Seg} (hq : Word q.2.2) : Txt.split (pieceS q) " " = [endsS q.1 q.2.1, q.2.2] := by
  have e : pieceS q = Txt.join " " [endsS q.1 q.2.1, q.2.2] := (join2 _ _ _).symm
  rw [e]
  refine TL.split_join (s := 32) (S := []) tl_sp (by decide +kernel) (by simp) fun p hp => ?_
  intro hc
  rcases List.mem_cons.mp hp with z | z
  · rw [z] at hc
    rcases ends_sign hc with y | y | y <;> omega
  · rw [List.mem_singleton.mp z] at hc
    have := hq.2.2 32 hc
    omega
theorem split_ends (s e : Option Int) : Txt.split (endsS s e) ".." = [endS s, endS e] := by
  have h : endsS s e = Txt.join ".." [endS s, endS e] := (join2 _ _ _).symm
  rw [h]
  refine TL.split_join (s := 46) (S := [46]) tl_dd (by decide +kernel) (by simp) fun p hp => ?_
  intro hc
  rcases List.mem_cons.mp hp with z | z
  · rw [z] at hc
    rcases end_sign hc with y | y <;> omega
  · rw [List.mem_singleton.mp z] at hc
    rcases end_sign hc with y | y <;> omega
theorem len_app3 {a b : Str} : (a ++ b).length = a.length + b.length := len_app a b
theorem len_dd : (".." : Str).length = 2 := by decide +kernel
theorem len_sp : (" " : Str).length = 1 := by decide +kernel
theorem len_cs : (", " : Str).length = 2 := by decide +kernel
theorem piece_len {q : Seg} (h : SegOk q) : (pieceS q).length ≤ 137 := by
  have h1 := end_len h.1
  have h2 := end_len h.2.1
  have h3 := h.2.2.2.1
  show (endS q.1 ++ ".." ++ endS q.2.1 ++ " " ++ q.2.2).length ≤ 137
  rw [len_app, len_app, len_app, len_app, len_dd, len_sp]
  omega
theorem pieces_sum {ps : List Seg} (h : ∀ q ∈ ps, SegOk q) : ((ps.map pieceS).map (·.length)).sum ≤ 137 * ps.length := by
  induction ps with
  | nil => exact Nat.le_refl 0
  | cons q r ih =>
    have h1 := piece_len (h q List.mem_cons_self)
    have h2 := ih fun q hq => h q (List.mem_cons_of_mem _ hq)
    rw [List.map_cons, List.map_cons, List.sum_cons, List.length_cons]
    omega
theorem joinL_len (S : List Nat) : ∀ ps : List (List Nat), (TL.joinL S ps).length ≤ (ps.map (·.length)).sum + ps.length * S.length
  | [] => by simp [TL.joinL]
  | [p] => by simp [TL.joinL]
  | p :: q :: r => by
    show (p ++ (S ++ TL.joinL S (q :: r))).length ≤ _
    have := joinL_len S (q :: r)
    rw [List.length_append, List.length_append, List.map_cons, List.sum_cons, List.length_cons, Nat.succ_mul]
    omega
theorem text_len {ps : List Seg} (h : ∀ q ∈ ps, SegOk q) : (Txt.join ", " (ps.map pieceS)).length ≤ 139 * ps.length := by
  have h1 := pieces_sum h
  have h2 := joinL_len (tl (", " : Str)) ((ps.map pieceS).map tl)
  have e : ((ps.map pieceS).map tl).map (·.length) = (ps.map pieceS).map (·.length) := by
    rw [List.map_map]
    exact List.map_congr_left fun z _ => (len_tl z).symm
  rw [len_tl, TL.join_eq, TL.tl_join]
  rw [e, List.length_map, List.length_map, tl_cs] at h2
  simp only [List.length_cons, List.length_nil] at h2
  have h3 : (TL.joinL (TL.tl (", " : Str)) ((ps.map pieceS).map TL.tl)).length ≤ ((ps.map pieceS).map (·.length)).sum + ps.length * 2 := by
    have := joinL_len (TL.tl (", " : Str)) ((ps.map pieceS).map TL.tl)
    rw [show ((ps.map pieceS).map TL.tl).map (·.length) = (ps.map pieceS).map (·.length) from e, List.length_map, List.length_map, show (TL.tl (", " : Str)).length = 2 from by decide +kernel] at this
    exact this
  omega
/-- the text is empty just where nothing is told -/
theorem text_nil {ps : List Seg} : Txt.join ", " (ps.map pieceS) = "" ↔ ps = [] := by
  constructor
  · intro h
    have h1 := congrArg TL.tl h
    rw [TL.join_eq, TL.tl_join, show TL.tl ("" : Str) = [] from tl_nil] at h1
    cases ps with
    | nil => rfl
    | cons q r =>
      exfalso
      have hp : TL.tl (pieceS q) ≠ [] := by
        rw [show TL.tl (pieceS q) = _ from tl_piece q]
        simp
      cases r with
      | nil => exact hp h1
      | cons q' r =>
        have h1 : TL.tl (pieceS q) ++ (TL.tl (", " : Str) ++ TL.joinL _ _) = [] := h1
        exact hp (List.append_eq_nil_iff.mp h1).1
  · rintro rfl
    rfl
/-! ### a line as its stretches -/
def segsV (s : Option Int) (v : V) : List (Int × V) → List (Option Int × Option Int × V)
  | [] => [(s, none, v)]
  | (c, h) :: r => (s, some c, v) :: segsV (some c) h r
def told (q : Option Int × Option Int × V) : Option Seg := match q.2.2 with
  | .str z => some (q.1, q.2.1, z)
  | _ => none
abbrev segs (v : V) (ps : List (Int × V)) : List Seg := (segsV none v ps).filterMap told
abbrev textOf (v : V) (ps : List (Int × V)) : Str := Txt.join ", " ((segs v ps).map pieceS)
theorem segsV_len : ∀ {ps : List (Int × V)} {s : Option Int} {v : V}, (segsV s v ps).length = ps.length + 1
  | [], _, _ => rfl
  | (c, h) :: r, s, v => by
    show (segsV (some c) h r).length + 1 = _
    rw [segsV_len] <;> rfl
theorem segsV_at : ∀ {ps : List (Int × V)} {s : Option Int} {v : V} {k : Nat} {q : Option Int × Option Int × V}, (segsV s v ps)[k]? = some q →
    (optV s :: ((cuts ps).map V.int ++ [.non]))[k]? = some (optV q.1) ∧ (optV s :: ((cuts ps).map V.int ++ [.non]))[k + 1]? = some (optV q.2.1) ∧ (holds v ps)[k]? = some q.2.2
  | [], s, v, 0, q, h => by
    cases Option.some.inj h
    exact ⟨rfl, rfl, rfl⟩
  | [], s, v, k + 1, q, h => by simp [segsV] at h
  | (c, g) :: r, s, v, 0, q, h => by
    cases Option.some.inj h
    exact ⟨rfl, rfl, rfl⟩
  | (c, g) :: r, s, v, k + 1, q, h => segsV_at (ps := r) (s := some c) (v := g) (k := k) h
theorem segs_ok : ∀ {ps : List (Int × V)} {s : Option Int} {v : V}, EndOk s → (∀ p ∈ ps, p.1.natAbs < Far) → AllHV v ps → ∀ q ∈ (segsV s v ps).filterMap told, SegOk q
  | [], s, v, hs, hp, hv, q, hq => by
    rcases hv v List.mem_cons_self with rfl | ⟨z, hz, rfl⟩
    · cases hq
    · have hq : q ∈ [(s, (none : Option Int), z)] := hq
      rw [List.mem_singleton.mp hq]
      exact ⟨hs, True.intro, hz⟩
  | (c, h) :: r, s, v, hs, hp, hv, q, hq => by
    have hc : c.natAbs < Far := hp (c, h) List.mem_cons_self
    have ih := segs_ok (ps := r) (s := some c) (v := h) hc (fun p hp' => hp p (List.mem_cons_of_mem _ hp')) fun x hx => hv x (List.mem_cons_of_mem _ hx)
    rcases hv v List.mem_cons_self with rfl | ⟨z, hz, rfl⟩
    · exact ih q hq
    · have hq : q ∈ (s, some c, z) :: (segsV (some c) h r).filterMap told := hq
      rcases List.mem_cons.mp hq with e | e
      · rw [e]
        exact ⟨hs, hc, hz⟩
      · exact ih q e
def toPut (q : Seg) : Deed V := .put q.1 q.2.1 (.str q.2.2)
/-- putting the stretches in tells the line again -/
theorem put_segs : ∀ {ps : List (Int × V)} {s : Option Int} {v : V} {f : Int → V}, Ris ps → (∀ a, s = some a → ∀ p ∈ ps, a < p.1) → AllHV v ps → (∀ x, inL s x = true → f x = .non) →
    ∀ x, (((segsV s v ps).filterMap told).map toPut).foldl (fun f d => back .non f d) f x = if inL s x = true then at_ v ps x else f x
  | [], s, v, f, hr, hs, hv, hf, x => by
    rcases hv v List.mem_cons_self with rfl | ⟨z, hz, rfl⟩
    · show f x = if inL s x = true then V.non else f x
      split
      · exact hf x (by assumption)
      · rfl
    · show back .non f (.put s none (.str z)) x = _
      rw [back_put, in_LR, show inR none x = true from rfl, Bool.and_true] <;> rfl
  | (c, h) :: r, s, v, f, hr, hs, hv, hf, x => by
    obtain ⟨h1, h2⟩ := List.pairwise_cons.mp hr
    have hv' : AllHV h r := fun x hx => hv x (List.mem_cons_of_mem _ hx)
    have hsc : ∀ y, c ≤ y → inL s y = true := fun y hy => by
      cases s with
      | none => rfl
      | some a =>
        have := hs a rfl (c, h) List.mem_cons_self
        exact decide_eq_true (by have : a < c := this; omega)
    have hlow : ∀ y, y < c → at_ v r y = v := fun y hy => at_lo fun p hp => by
      have : c < p.1 := h1 p hp
      omega
    have hin : inL (some c) x = decide (c ≤ x) := rfl
    rcases hv v List.mem_cons_self with rfl | ⟨z, hz, rfl⟩
    · show (((segsV (some c) h r).filterMap told).map toPut).foldl (fun f d => back .non f d) f x = _
      rw [put_segs (ps := r) (s := some c) (v := h) (f := f) h2 (fun a ha p hp => by cases ha; exact h1 p hp) hv' (fun y hy => hf y (hsc y (of_decide_eq_true hy))) x, hin, at_cons]
      by_cases hx : c ≤ x
      · rw [if_pos (decide_eq_true hx), if_pos hx, if_pos (hsc x hx)]
      · rw [if_neg (by simpa using hx), if_neg hx]
        split
        · rw [hlow x (by omega)]
          exact hf x (by assumption)
        · rfl
    · show (((segsV (some c) h r).filterMap told).map toPut).foldl (fun f d => back .non f d) (back .non f (.put s (some c) (.str z))) x = _
      rw [put_segs (ps := r) (s := some c) (v := h) (f := back .non f (.put s (some c) (.str z))) h2 (fun a ha p hp => by cases ha; exact h1 p hp) hv' (fun y hy => by
        have hy : c ≤ y := of_decide_eq_true hy
        rw [back_put, in_LR, show inR (some c) y = false from decide_eq_false (by omega), Bool.and_false, if_neg Bool.false_ne_true]
        exact hf y (hsc y hy)) x, hin, at_cons]
      by_cases hx : c ≤ x
      · rw [if_pos (decide_eq_true hx), if_pos hx, if_pos (hsc x hx)]
      · rw [if_neg (by simpa using hx), if_neg hx, back_put, in_LR, show inR (some c) x = true from decide_eq_true (by omega), Bool.and_true, hlow x (by omega)]
theorem after_segs {ps : List (Int × V)} {v : V} (hr : Ris ps) (hv : AllHV v ps) (x : Int) : after .non ((segs v ps).map toPut) x = at_ v ps x := by
  have := put_segs (ps := ps) (s := none) (v := v) (f := fun _ => V.non) hr (fun a ha => nomatch ha) hv (fun _ _ => rfl) x
  rw [show inL none x = true from rfl, if_pos rfl] at this
  exact this
theorem cutS1 (z : Str) : tl (cutS z (some 1) none) = (tl z).drop 1 := by
  show ((z.cps.toList.drop (HT.sIx z.length 0 (some 1))).take (HT.sIx z.length z.length none - HT.sIx z.length 0 (some 1))) = z.cps.toList.drop 1
  rw [show HT.sIx z.length 0 (some 1) = min 1 z.length from HT.sIx_nat z.length 0 1, HT.sIx_none]
  have hl : z.length = z.cps.toList.length := len_tl z
  cases h : z.cps.toList with
  | nil => simp
  | cons c r =>
    rw [h] at hl
    rw [show min 1 z.length = 1 by rw [hl, List.length_cons]; omega]
    rw [List.take_of_length_le (by rw [List.length_drop, List.length_cons]; rw [List.length_cons] at hl; omega)]
theorem one_eq {c d : Nat} : decide ((⟨#[c]⟩ : Str) = ⟨#[d]⟩) = decide (c = d) := by
  refine decide_eq_decide.mpr ⟨fun h => ?_, fun h => by rw [h]⟩
  have := congrArg TL.tl h
  exact (List.cons.inj this).1
theorem minus_is : ("-" : Str) = ⟨#[45]⟩ := by decide +kernel
theorem nought_is : ("0" : Str) = ⟨#[48]⟩ := by decide +kernel
theorem figs : (tl ("0123456789" : Str)) = [48, 49, 50, 51, 52, 53, 54, 55, 56, 57] := by decide +kernel
theorem in_figs {c : Nat} (h : 48 ≤ c ∧ c ≤ 57) : decide (c ∈ ("0123456789" : Str).cps.toList) = true := by
  refine decide_eq_true ?_
  show c ∈ tl ("0123456789" : Str)
  rw [figs]
  have : c = 48 ∨ c = 49 ∨ c = 50 ∨ c = 51 ∨ c = 52 ∨ c = 53 ∨ c = 54 ∨ c = 55 ∨ c = 56 ∨ c = 57 := by omega
  rcases this with h | h | h | h | h | h | h | h | h | h <;> rw [h] <;> decide
theorem in_abc {c : Nat} (h : 97 ≤ c ∧ c ≤ 122) : decide (c ∈ abc.cps.toList) = true := by
  refine decide_eq_true ?_
  have := abc_at (c - 97) (by omega)
  rw [show 97 + (c - 97) = c by omega] at this
  exact List.mem_of_getElem? this
theorem int_ne_nil (i : Int) : decide (intS i = "") = false := by
  refine decide_eq_false fun h => ?_
  have h1 := congrArg tl h
  rw [tl_int, tl_nil] at h1
  exact TL.numL_ne i.natAbs (List.append_eq_nil_iff.mp h1).2
theorem nil_eq : decide (("" : Str) = "") = true := by decide +kernel
theorem int_zero {i : Int} (h : decide (intS i = "0") = false) (h0 : i.natAbs = 0) : False := by
  have : i = 0 := by omega
  subst this
  have e : decide (intS 0 = "0") = true := by decide +kernel
  rw [e] at h
  cases h
end Cut
/-! promises of lines written and read -/
namespace Cut
open PySem PySem.Spec PyProof.Rows L2 Wk
/-- a line as it may be written -/
structure Wr (v : V) (ps : List (Int × V)) : Prop where
  hv : AllHV v ps
  far : ∀ p ∈ ps, p.1.natAbs < Far
  len : ps.length ≤ 200
theorem Wr.segs {v : V} {ps : List (Int × V)} (h : Wr v ps) : ∀ q ∈ Cut.segs v ps, SegOk q := segs_ok True.intro h.far h.hv
theorem Wr.seglen {v : V} {ps : List (Int × V)} (h : Wr v ps) : (Cut.segs v ps).length ≤ 201 := by
  have h1 := List.length_filterMap_le told (segsV none v ps)
  rw [segsV_len] at h1
  have := h.len
  show (List.filterMap told (segsV none v ps)).length ≤ 201
  omega
theorem Wr.sum {v : V} {ps : List (Int × V)} (h : Wr v ps) : (((Cut.segs v ps).map pieceS).map (·.length)).sum + ((Cut.segs v ps).map pieceS).length * (", " : Str).length ≤ 16777216 := by
  have h1 := pieces_sum h.segs
  have h2 := h.seglen
  rw [len_cs, List.length_map]
  omega
theorem Wr.keep {v : V} {ps : List (Int × V)} (h : Wr v ps) : Wr v (Cut.keep v ps) := ⟨h.hv.keep, fun p hp => h.far p (keepB_mem hp), Nat.le_trans keepB_len h.len⟩
section
variable (C : Addr)
def sp_end_shown : Sp := fun vs H Q _ => ∃ o : Option Int, vs = [optV o] ∧ EndOk o ∧ ∀ H', Same H H' → Q (.str (endS o)) H'
def sp_shown : Sp := fun vs H Q _ => ∃ (p : Addr) (v : V) (ps : List (Int × V)), vs = [.ref p] ∧ LineAt C H p (cuts ps) (holds v ps) ∧ Wr v ps ∧ ∀ H', Same H H' → Q (.str (textOf v ps)) H'
def sp_end_of : Sp := fun vs H Q _ => ∃ o : Option Int, vs = [.str (endS o)] ∧ EndOk o ∧ ∀ H', Same H H' → Q (optV o) H'
def sp_value_of : Sp := fun vs H Q _ => ∃ z : Str, vs = [.str z] ∧ Word z ∧ ∀ H', Same H H' → Q (.str z) H'
def sp_read : Sp := fun vs H Q _ => ∃ (v : V) (ps : List (Int × V)), vs = [.str (textOf v ps)] ∧ Wr v ps ∧ Ris ps ∧ Nrm v ps ∧ ∀ (H' : Hp) (p : Addr), Same H H' → LineOk C H' p v ps → Q (.ref p) H'
def sp_law_text : Sp := fun vs H Q _ => ∃ (t lc lh : Addr) (v : V) (ps : List (Int × V)), vs = [.ref t] ∧ ToldAt H t lc lh v ps ∧ Wr v ps ∧ ∀ H', Same H H' → Q (.str (textOf v ps)) H'
end
end Cut
/-! the desk -/
namespace Cut
open PySem PySem.Spec PyProof.Rows L2 Wk
/-! ### marks -/
abbrev Mk' := List (Str × Int)
def mput (M : Mk') (n : Str) (x : Int) : Mk' := if (M.any fun p => decide (p.1 = n)) = true then M.map (fun p => if p.1 = n then (p.1, x) else p) else M ++ [(n, x)]
abbrev kOf (M : Mk') : List (L2.Key × V) := M.map fun p => (Sum.inr p.1, V.int p.2)
theorem kOf_put (M : Mk') (n : Str) (x : Int) : putK (kOf M) (.inr n) (.int x) = kOf (mput M n x) := by
  unfold putK mput
  have e : ((kOf M).any fun kv => decide (kv.1 = (Sum.inr n : L2.Key))) = (M.any fun p => decide (p.1 = n)) := by
    rw [List.any_map]
    congr 1
    funext p
    exact decide_eq_decide.mpr ⟨fun h => Sum.inr.inj h, fun h => by show Sum.inr p.1 = _; rw [h]⟩
  rw [e]
  split
  · show (M.map _).map _ = (M.map _).map _
    rw [List.map_map, List.map_map]
    refine List.map_congr_left fun p _ => ?_
    show (if (Sum.inr p.1 : L2.Key) = Sum.inr n then ((Sum.inr p.1 : L2.Key), V.int x) else (Sum.inr p.1, V.int p.2)) = (Sum.inr (if p.1 = n then (p.1, x) else p).1, V.int (if p.1 = n then (p.1, x) else p).2)
    by_cases h : p.1 = n
    · rw [if_pos h, if_pos (by rw [h])]
    · rw [if_neg h, if_neg fun z => h (Sum.inr.inj z)]
  · show _ = (M ++ [(n, x)]).map _
    rw [List.map_append] <;> rfl
abbrev Nod (M : Mk') : Prop := (M.map (·.1)).Nodup
theorem mput_keys (M : Mk') (n : Str) (x : Int) : (mput M n x).map (·.1) = if (M.any fun p => decide (p.1 = n)) = true then M.map (·.1) else M.map (·.1) ++ [n] := by
  unfold mput
  split
  · rw [List.map_map]
    refine List.map_congr_left fun p _ => ?_
    show (if p.1 = n then (p.1, x) else p).1 = p.1
    split <;> rfl
  · rw [List.map_append] <;> rfl
theorem mput_nod {M : Mk'} (h : Nod M) (n : Str) (x : Int) : Nod (mput M n x) := by
  show ((mput M n x).map (·.1)).Nodup
  rw [mput_keys]
  split
  · exact h
  · rename_i hn
    refine List.nodup_append.mpr ⟨h, List.pairwise_singleton _ _, fun a ha b hb => ?_⟩
    rw [List.mem_singleton.mp hb]
    rintro rfl
    obtain ⟨p, hp, rfl⟩ := List.mem_map.mp ha
    exact hn (List.any_eq_true.mpr ⟨p, hp, decide_eq_true rfl⟩)
theorem kOf_val {M : Mk'} (h : Nod M) : ∀ {i : Nat} {p : Str × Int}, M[i]? = some p → valV (kOf M) (.inr p.1) = some (.int p.2) := by
  induction M with
  | nil => intro i p hp; simp at hp
  | cons q r ih =>
    intro i p hp
    obtain ⟨h1, h2⟩ := List.nodup_cons.mp h
    cases i with
    | zero =>
      cases Option.some.inj hp
      exact valV_pos rfl
    | succ i =>
      have hm : p ∈ r := List.mem_of_getElem? hp
      show valV ((Sum.inr q.1, V.int q.2) :: kOf r) (.inr p.1) = _
      rw [valV_neg fun z => h1 (by
        have e : q.1 = p.1 := Sum.inr.inj z
        show q.1 ∈ r.map (·.1)
        rw [e]
        exact List.mem_map.mpr ⟨p, hm, rfl⟩)]
      exact ih h2 (i := i) hp
theorem kOf_none {M : Mk'} {n : Str} (h : n ∉ M.map (·.1)) : valV (kOf M) (.inr n) = none := by
  induction M with
  | nil => rfl
  | cons q r ih =>
    show valV ((Sum.inr q.1, V.int q.2) :: kOf r) (.inr n) = _
    rw [valV_neg fun z => h (by
      have : q.1 = n := Sum.inr.inj z
      rw [← this]
      exact List.mem_cons_self)]
    exact ih fun hm => h (List.mem_cons_of_mem _ hm)
/-- built anew, in the same order -/
theorem mput_new {M : Mk'} {i : Nat} {p : Str × Int} {g : Int → Int} (h : Nod M) (hp : M[i]? = some p) : mput ((M.take i).map fun q => (q.1, g q.2)) p.1 (g p.2) = (M.take (i + 1)).map fun q => (q.1, g q.2) := by
  unfold mput
  have hi := (List.getElem?_eq_some_iff.mp hp).1
  rw [if_neg, List.take_add_one, hp, List.map_append]
  · rfl
  · intro hn
    obtain ⟨q, hq, e⟩ := List.any_eq_true.mp hn
    obtain ⟨q', hq', rfl⟩ := List.mem_map.mp hq
    have e : q'.1 = p.1 := of_decide_eq_true e
    obtain ⟨j, hj, ej⟩ := List.getElem_of_mem hq'
    rw [List.length_take] at hj
    rw [List.getElem_take] at ej
    have hne := List.pairwise_iff_getElem.mp h j i (by rw [List.length_map]; omega) (by rw [List.length_map]; exact hi) (by omega)
    refine hne ?_
    rw [List.getElem_map, List.getElem_map, ej, (List.getElem?_eq_some_iff.mp hp).2]
    exact e
/-- changed in its place -/
theorem mput_at {M : Mk'} {i : Nat} {p : Str × Int} {g : Int → Int} (h : Nod M) (hp : M[i]? = some p) : mput (((M.take i).map fun q => (q.1, g q.2)) ++ M.drop i) p.1 (g p.2) = ((M.take (i + 1)).map fun q => (q.1, g q.2)) ++ M.drop (i + 1) := by
  obtain ⟨hi, he⟩ := List.getElem?_eq_some_iff.mp hp
  have hd : M.drop i = p :: M.drop (i + 1) := by rw [List.drop_eq_getElem_cons hi, he]
  have hk : M.map (·.1) = (M.take i).map (·.1) ++ p.1 :: (M.drop (i + 1)).map (·.1) := by
    conv => lhs; rw [← List.take_append_drop i M]
    rw [List.map_append, hd] <;> rfl
  have hnd := h
  unfold Nod at hnd
  rw [hk] at hnd
  obtain ⟨_, n2, n3⟩ := List.nodup_append.mp hnd
  obtain ⟨n4, _⟩ := List.nodup_cons.mp n2
  unfold mput
  rw [if_pos]
  · rw [hd, List.map_append, List.map_cons, if_pos rfl, List.take_add_one, hp, List.map_append]
    have a1 : ((M.take i).map fun q => (q.1, g q.2)).map (fun q => if q.1 = p.1 then (q.1, g p.2) else q) = (M.take i).map fun q => (q.1, g q.2) := by
      conv => rhs; rw [← List.map_id ((M.take i).map fun q => (q.1, g q.2))]
      refine List.map_congr_left fun q hq => ?_
      obtain ⟨q', hq', rfl⟩ := List.mem_map.mp hq
      show (if q'.1 = p.1 then _ else _) = _
      rw [if_neg fun z => n3 q'.1 (List.mem_map.mpr ⟨q', hq', rfl⟩) p.1 List.mem_cons_self z] <;> rfl
    have a2 : (M.drop (i + 1)).map (fun q => if q.1 = p.1 then (q.1, g p.2) else q) = M.drop (i + 1) := by
      conv => rhs; rw [← List.map_id (M.drop (i + 1))]
      refine List.map_congr_left fun q hq => ?_
      show (if q.1 = p.1 then _ else _) = _
      rw [if_neg fun z => n4 (by rw [← z]; exact List.mem_map.mpr ⟨q, hq, rfl⟩)] <;> rfl
    rw [a1, a2]
    simp
  · rw [hd]
    exact List.any_eq_true.mpr ⟨p, List.mem_append_right _ List.mem_cons_self, decide_eq_true rfl⟩
/-! ### what is done at a desk -/
inductive XD where
  | mark (n : Str) (x : Int)
  | deed (d : Deed V)
def goods (D : List XD) : List (Deed V) := D.filterMap fun x => match x with | .deed d => some d | _ => none
def mstep (M : Mk') : XD → Mk'
  | .mark n x => mput M n x
  | .deed d => M.map fun q => (q.1, moved d q.2)
def marks (D : List XD) : Mk' := D.foldl mstep []
theorem marks_snoc (D : List XD) (x : XD) : marks (D ++ [x]) = mstep (marks D) x := by
  unfold marks
  rw [List.foldl_append] <;> rfl
theorem goods_snoc (D : List XD) (x : XD) : goods (D ++ [x]) = goods D ++ (match x with | .deed d => [d] | _ => []) := by
  unfold goods
  rw [List.filterMap_append]
  cases x <;> rfl
theorem mstep_nod {M : Mk'} (h : Nod M) (x : XD) : Nod (mstep M x) := by
  cases x with
  | mark n x => exact mput_nod h n x
  | deed d =>
    show ((M.map _).map _).Nodup
    rw [List.map_map]
    exact h
theorem marks_nod : ∀ (n : Nat) (D : List XD), D.length = n → Nod (marks D)
  | 0, D, h => by
    rw [List.length_eq_zero_iff.mp h]
    exact List.nodup_nil
  | n + 1, D, h => by
    have hne : D ≠ [] := fun z => by rw [z] at h; cases h
    rw [← List.dropLast_concat_getLast hne, marks_snoc]
    exact mstep_nod (marks_nod n _ (by rw [List.length_dropLast, h]; rfl)) _
theorem mput_len (M : Mk') (n : Str) (x : Int) : (mput M n x).length ≤ M.length + 1 := by
  unfold mput
  split
  · rw [List.length_map]; omega
  · rw [List.length_append, List.length_singleton]
    exact Nat.le_refl _
theorem marks_len : ∀ (n : Nat) (D : List XD), D.length = n → (marks D).length ≤ n
  | 0, D, h => by
    rw [List.length_eq_zero_iff.mp h]
    exact Nat.le_refl 0
  | n + 1, D, h => by
    have hne : D ≠ [] := fun z => by rw [z] at h; cases h
    have ih := marks_len n D.dropLast (by rw [List.length_dropLast, h]; rfl)
    rw [← List.dropLast_concat_getLast hne, marks_snoc]
    cases D.getLast hne with
    | mark m x =>
      have := mput_len (marks D.dropLast) m x
      show (mput _ m x).length ≤ _
      omega
    | deed d =>
      show (List.map _ _).length ≤ _
      rw [List.length_map]
      omega
/-- the three names that marks have -/
def Nm (n : Str) : Prop := n = "a" ∨ n = "peg" ∨ n = "zz"
def XOk : XD → Prop
  | .mark n _ => Nm n
  | .deed d => DOk d
def xdT : XD → List V
  | .mark n x => [.str "mark", .str n, .int x]
  | .deed d => deedT d
theorem goods_ok {D : List XD} (h : ∀ x ∈ D, XOk x) : ∀ d ∈ goods D, DOk d := fun d hd => by
  obtain ⟨x, hx, e⟩ := List.mem_filterMap.mp hd
  cases x with
  | mark n y => cases e
  | deed d' =>
    cases Option.some.inj e
    exact h _ hx
theorem goods_len (D : List XD) : (goods D).length ≤ D.length := List.length_filterMap_le _ _
/-! ### heaps: what is never changed -/
/-- H without what may be changed -/
def fixH (H : Hp) (ms : List Addr) : Hp := fun x => if x ∈ ms then none else H x
theorem fix_same {H : Hp} {ms : List Addr} : Same (fixH H ms) H := fun x o h => by
  unfold fixH at h
  split at h
  · cases h
  · exact h
theorem fix_none {H : Hp} {ms : List Addr} {x : Addr} (h : x ∈ ms) : fixH H ms x = none := if_pos h
theorem fix_get {H : Hp} {ms : List Addr} {x : Addr} {o : HO} (h : H x = some o) (hn : x ∉ ms) : fixH H ms x = some o := by
  unfold fixH
  rw [if_neg hn]
  exact h
/-- all but some addresses as it was -/
def Fr (ms : List Addr) (H H' : Hp) : Prop := ∀ x o, H x = some o → x ∉ ms → H' x = some o
theorem Fr.of {ms : List Addr} {H H' : Hp} (s : Same H H') : Fr ms H H' := fun x o h _ => s x o h
theorem Fr.via {ms : List Addr} {A B C : Hp} (a : Fr ms A B) (b : Fr ms B C) : Fr ms A C := fun x o h n => b x o (a x o h n) n
theorem Fr.mono {ms ms' : List Addr} {A B : Hp} (a : Fr ms A B) (h : ∀ x ∈ ms, x ∈ ms') : Fr ms' A B := fun x o hx n => a x o hx fun z => n (h x z)
theorem Fr.mv {ms : List Addr} {A B : Hp} {l : Addr} (m : Mv A l B) (h : l ∈ ms) : Fr ms A B := fun x o hx n => by rw [m x fun z => n (by rw [z]; exact h)]; exact hx
theorem Fr.fix {ms ms' : List Addr} {H H' : Hp} (f : Fr ms H H') (h : ∀ x ∈ ms, x ∈ ms') (new : ∀ x ∈ ms', x ∈ ms ∨ H x = none ∨ x ∈ ms') : Same (fixH H ms') (fixH H' ms') := fun x o hx => by
  unfold fixH at hx ⊢
  split at hx
  · cases hx
  · rename_i hn
    rw [if_neg hn]
    exact f x o hx fun z => hn (h x z)
theorem fix_mono {ms ms' : List Addr} {H H' : Hp} (f : Fr ms H H') (h : ∀ x ∈ ms, x ∈ ms') (new : ∀ x ∈ ms', x ∈ ms ∨ H x = none) : Same (fixH H ms) (fixH H' ms') := fun x o hx => by
  unfold fixH at hx ⊢
  split at hx
  · cases hx
  · rename_i hn
    rw [if_neg fun z => by
      rcases new x z with y | y
      · exact hn y
      · rw [y] at hx; cases hx]
    exact f x o hx hn
/-- a stand of the desk: a line and marks, behind D -/
def StandAt (C : Addr) (F : Hp) (t : Addr) (D : List XD) : Prop := ∃ (p dc : Addr) (v : V) (ps : List (Int × V)), F t = some (.tup [.ref p, .ref dc]) ∧ LineOk C F p v ps ∧ ps.length ≤ 2 * D.length ∧ (∀ x, at_ v ps x = after .non (goods D) x) ∧ F dc = some (.dK (kOf (marks D)))
theorem StandAt.same {C : Addr} {F F' : Hp} {t : Addr} {D : List XD} (s : Same F F') (h : StandAt C F t D) : StandAt C F' t D := by
  obtain ⟨p, dc, v, ps, h1, h2, h3, h4, h5⟩ := h
  exact ⟨p, dc, v, ps, s _ _ h1, h2.same s, h3, h4, s _ _ h5⟩
def deskFs (st un : Addr) : List (Str × V) := [("stands", .ref st), ("undone", .ref un)]
/-- the desk d: stands in st, undone ones in un; D stands, G was undone -/
structure DeskAt (C CD : Addr) (H : Hp) (ms : List Addr) (d dx st un : Addr) (D G : List XD) : Prop where
  ob : H d = some (.ins CD dx (deskFs st un))
  md : d ∈ ms
  mst : st ∈ ms
  mun : un ∈ ms
  ne : st ≠ un
  nds : d ≠ st
  ndu : d ≠ un
  sts : ∃ ts : List Addr, H st = some (.lst (ts.map V.ref)) ∧ ts.length = D.length + 1 ∧ ∀ (i : Nat) t, ts[i]? = some t → StandAt C (fixH H ms) t (D.take i)
  uns : ∃ us : List Addr, H un = some (.lst (us.map V.ref)) ∧ us.length = G.length ∧ ∀ (i : Nat) u, us[i]? = some u → StandAt C (fixH H ms) u (D ++ (G.drop i).reverse)
theorem DeskAt.move {C CD : Addr} {H H' : Hp} {ms ms' : List Addr} {d dx st un : Addr} {D G : List XD} (h : DeskAt C CD H ms d dx st un D G) {ks : List Addr} (f : Fr ks H H') (hk : ∀ x ∈ ks, x ∈ ms) (kd : d ∉ ks) (ks' : st ∉ ks) (ku : un ∉ ks) (hm : ∀ x ∈ ms, x ∈ ms') (hn : ∀ x ∈ ms', x ∈ ms ∨ H x = none) : DeskAt C CD H' ms' d dx st un D G := by
  have s : Same (fixH H ms) (fixH H' ms') := fix_mono (f.mono hk) hm hn
  obtain ⟨ts, t1, t2, t3⟩ := h.sts
  obtain ⟨us, u1, u2, u3⟩ := h.uns
  exact ⟨f _ _ h.ob kd, hm _ h.md, hm _ h.mst, hm _ h.mun, h.ne, h.nds, h.ndu, ⟨ts, f _ _ t1 ks', t2, fun i t e => (t3 i t e).same s⟩, ⟨us, f _ _ u1 ku, u2, fun i u e => (u3 i u e).same s⟩⟩
/-! ### the class -/
structure DeskC (K : PySem.W.Frag) (mg : Str → Option Value) (C fi fdo fun' fre fli fwh fna : Addr) : Prop where
  cl : Cls K C
  nS : NoAttr K C "stands"
  nU : NoAttr K C "undone"
  mgC : mg "Desk" = some (.ref C)
  made : Mk K C fi
  mdo : Meth K C "do" fdo
  mun : Meth K C "undo" fun'
  mre : Meth K C "redo" fre
  mli : Meth K C "line" fli
  mwh : Meth K C "where" fwh
  mna : Meth K C "names" fna
theorem look_none {m : Str} {st un : Addr} (h1 : (m == ("stands" : Str)) = false) (h2 : (m == ("undone" : Str)) = false) : (deskFs st un).lookup m = none := by
  unfold deskFs
  rw [List.lookup_cons, h1, List.lookup_cons, h2] <;> rfl
theorem look_st (st un : Addr) : (deskFs st un).lookup ("stands" : Str) = some (.ref st) := by
  unfold deskFs
  rw [List.lookup_cons]
  have e : (("stands" : Str) == ("stands" : Str)) = true := by decide +kernel
  rw [e]
theorem look_un (st un : Addr) : (deskFs st un).lookup ("undone" : Str) = some (.ref un) := by
  unfold deskFs
  rw [List.lookup_cons]
  have e : (("undone" : Str) == ("stands" : Str)) = false := by decide +kernel
  rw [e, List.lookup_cons]
  have e2 : (("undone" : Str) == ("undone" : Str)) = true := by decide +kernel
  rw [e2]
theorem su_ : ¬ (("stands" : Str) = "undone") := by decide +kernel
theorem put_un (st un un' : Addr) : putF "undone" (.ref un') (deskFs st un) = deskFs st un' := by
  show (if ("stands" : Str) = "undone" then _ else (("stands" : Str), V.ref st) :: (if ("undone" : Str) = "undone" then _ else _)) = _
  rw [if_neg su_, if_pos rfl] <;> rfl
theorem put_init (st un : Addr) : putF "undone" (.ref un) (putF "stands" (.ref st) []) = deskFs st un := by
  show (if ("stands" : Str) = "undone" then _ else (("stands" : Str), V.ref st) :: putF "undone" (V.ref un) []) = _
  rw [if_neg su_] <;> rfl
abbrev DeskEx {K : PySem.W.Frag} {h : Heap} (_ : K.In h) (mg : Str → Option Value) (s0 s1 s2 s3 s4 s5 s6 : Stmt) : Prop := ∃ C fi fdo fun' fre fli fwh fna, DeskC K mg C fi fdo fun' fre fli fwh fna ∧ MetAt K "__init__" "Desk.__init__" s0 fi ∧ MetAt K "do" "Desk.do" s1 fdo ∧ MetAt K "undo" "Desk.undo" s2 fun' ∧ MetAt K "redo" "Desk.redo" s3 fre ∧ MetAt K "line" "Desk.line" s4 fli ∧ MetAt K "where" "Desk.where" s5 fwh ∧ MetAt K "names" "Desk.names" s6 fna
theorem desk_mk {K : PySem.W.Frag} {mg : Str → Option Value} {h : Heap} {s0 s1 s2 s3 s4 s5 s6 : Stmt} (X : K.In h) (G : h.Ns mainGlobals mg) {C fi fdo fun' fre fli fwh fna : Addr} {oci kVi doci pmi cdvi cti : Value} {odi ani : Option Addr} {osli : Array (Option Value)}
  {ocdo kVdo docdo pmdo cdvdo ctdo : Value} {oddo ando : Option Addr} {osldo : Array (Option Value)}
  {ocun kVun docun pmun cdvun ctun : Value} {odun anun : Option Addr} {oslun : Array (Option Value)}
  {ocre kVre docre pmre cdvre ctre : Value} {odre anre : Option Addr} {oslre : Array (Option Value)}
  {ocli kVli docli pmli cdvli ctli : Value} {odli anli : Option Addr} {oslli : Array (Option Value)}
  {ocwh kVwh docwh pmwh cdvwh ctwh : Value} {odwh anwh : Option Addr} {oslwh : Array (Option Value)}
  {ocna kVna docna pmna cdvna ctna : Value} {odna anna : Option Addr} {oslna : Array (Option Value)}
  (aC : PySem.W.nsIn K mainGlobals "Desk" = some (some (.ref C))) (pg : PySem.W.plainGet K C Str.empty = true) (hd : PySem.W.hasDictIn K C = true) (po : PySem.W.plainOver K C = true) (sa : PySem.W.findIn K (.ref C) "__setattr__" = some (some (.builtin "object.__setattr__"))) (nS : PySem.W.findIn K (.ref C) "stands" = some none) (nU : PySem.W.findIn K (.ref C) "undone" = some none) (mk : PySem.W.makesIn K C = true) (kC : PySem.W.keepIn K (.ref C) = true)
  (ai : PySem.W.findIn K (.ref C) "__init__" = some (some (.ref fi))) (fi' : PySem.W.isFn K (.ref fi) = true) (li : K.lookup fi = some ⟨oci, odi, .func (PySem.W.fnOf "__init__" "Desk.__init__" (defArgs s0) (defBody s0) (defScope s0) .none kVi doci pmi ani cdvi cti), osli⟩) (ci : PySem.W.codeIn K cdvi "Desk.__init__" = true) (ki : PySem.W.keepIn K (.ref fi) = true)
  (ado : PySem.W.findIn K (.ref C) "do" = some (some (.ref fdo))) (fdo' : PySem.W.isFn K (.ref fdo) = true) (ldo : K.lookup fdo = some ⟨ocdo, oddo, .func (PySem.W.fnOf "do" "Desk.do" (defArgs s1) (defBody s1) (defScope s1) .none kVdo docdo pmdo ando cdvdo ctdo), osldo⟩) (cdo : PySem.W.codeIn K cdvdo "Desk.do" = true) (kdo : PySem.W.keepIn K (.ref fdo) = true)
  (aun : PySem.W.findIn K (.ref C) "undo" = some (some (.ref fun'))) (fun'' : PySem.W.isFn K (.ref fun') = true) (lun : K.lookup fun' = some ⟨ocun, odun, .func (PySem.W.fnOf "undo" "Desk.undo" (defArgs s2) (defBody s2) (defScope s2) .none kVun docun pmun anun cdvun ctun), oslun⟩) (cun : PySem.W.codeIn K cdvun "Desk.undo" = true) (kun : PySem.W.keepIn K (.ref fun') = true)
  (are : PySem.W.findIn K (.ref C) "redo" = some (some (.ref fre))) (fre' : PySem.W.isFn K (.ref fre) = true) (lre : K.lookup fre = some ⟨ocre, odre, .func (PySem.W.fnOf "redo" "Desk.redo" (defArgs s3) (defBody s3) (defScope s3) .none kVre docre pmre anre cdvre ctre), oslre⟩) (cre : PySem.W.codeIn K cdvre "Desk.redo" = true) (kre : PySem.W.keepIn K (.ref fre) = true)
  (ali : PySem.W.findIn K (.ref C) "line" = some (some (.ref fli))) (fli' : PySem.W.isFn K (.ref fli) = true) (lli : K.lookup fli = some ⟨ocli, odli, .func (PySem.W.fnOf "line" "Desk.line" (defArgs s4) (defBody s4) (defScope s4) .none kVli docli pmli anli cdvli ctli), oslli⟩) (cli : PySem.W.codeIn K cdvli "Desk.line" = true) (kli : PySem.W.keepIn K (.ref fli) = true)
  (awh : PySem.W.findIn K (.ref C) "where" = some (some (.ref fwh))) (fwh' : PySem.W.isFn K (.ref fwh) = true) (lwh : K.lookup fwh = some ⟨ocwh, odwh, .func (PySem.W.fnOf "where" "Desk.where" (defArgs s5) (defBody s5) (defScope s5) .none kVwh docwh pmwh anwh cdvwh ctwh), oslwh⟩) (cwh : PySem.W.codeIn K cdvwh "Desk.where" = true) (kwh : PySem.W.keepIn K (.ref fwh) = true)
  (ana : PySem.W.findIn K (.ref C) "names" = some (some (.ref fna))) (fna' : PySem.W.isFn K (.ref fna) = true) (lna : K.lookup fna = some ⟨ocna, odna, .func (PySem.W.fnOf "names" "Desk.names" (defArgs s6) (defBody s6) (defScope s6) .none kVna docna pmna anna cdvna ctna), oslna⟩) (cna : PySem.W.codeIn K cdvna "Desk.names" = true) (kna : PySem.W.keepIn K (.ref fna) = true) : DeskEx X mg s0 s1 s2 s3 s4 s5 s6 :=
  ⟨C, fi, fdo, fun', fre, fli, fwh, fna, ⟨⟨pg, hd, po, sa⟩, nS, nU, PySem.W.mg_of X G aC, ⟨mk, ai, fi', kC⟩, ⟨ado, fdo', kdo⟩, ⟨aun, fun'', kun⟩, ⟨are, fre', kre⟩, ⟨ali, fli', kli⟩, ⟨awh, fwh', kwh⟩, ⟨ana, fna', kna⟩⟩, metAt_mk li ci ki, metAt_mk ldo cdo kdo, metAt_mk lun cun kun, metAt_mk lre cre kre, metAt_mk lli cli kli, metAt_mk lwh cwh kwh, metAt_mk lna cna kna⟩
theorem g_stands {K : PySem.W.Frag} {mg : Str → Option Value} {C fi fdo fun' fre fli fwh fna : Addr} {H : Hp} {Q : VK} {d dx st un : Addr} (DK : DeskC K mg C fi fdo fun' fre fli fwh fna) (h : H d = some (.ins C dx (deskFs st un))) (k : Q (.ref st) H) : kFld K "stands" Q (.ref d) H := ⟨d, C, dx, _, _, rfl, h, DK.cl, DK.nS, look_st st un, k⟩
theorem g_undone {K : PySem.W.Frag} {mg : Str → Option Value} {C fi fdo fun' fre fli fwh fna : Addr} {H : Hp} {Q : VK} {d dx st un : Addr} (DK : DeskC K mg C fi fdo fun' fre fli fwh fna) (h : H d = some (.ins C dx (deskFs st un))) (k : Q (.ref un) H) : kFld K "undone" Q (.ref d) H := ⟨d, C, dx, _, _, rfl, h, DK.cl, DK.nU, look_un st un, k⟩
/-- the last stand -/
theorem DeskAt.top {C CD : Addr} {H : Hp} {ms : List Addr} {d dx st un : Addr} {D G : List XD} (h : DeskAt C CD H ms d dx st un D G) : ∃ (ts : List Addr) (t : Addr), H st = some (.lst (ts.map V.ref ++ [V.ref t])) ∧ ts.length = D.length ∧ StandAt C (fixH H ms) t D ∧ ∀ (i : Nat) t, ts[i]? = some t → StandAt C (fixH H ms) t (D.take i) := by
  obtain ⟨ts, t1, t2, t3⟩ := h.sts
  have hne : ts ≠ [] := fun z => by rw [z] at t2; simp at t2
  obtain ⟨ts, t, rfl⟩ : ∃ ts0 t, ts = ts0 ++ [t] := ⟨ts.dropLast, ts.getLast hne, (List.dropLast_concat_getLast hne).symm⟩
  have hl : ts.length = D.length := by rw [List.length_append, List.length_singleton] at t2; omega
  refine ⟨ts, t, by rw [t1, List.map_append] <;> rfl, hl, ?_, fun i t' e => ?_⟩
  · have := t3 ts.length t (by rw [List.getElem?_append_right (Nat.le_refl _), Nat.sub_self] <;> rfl)
    rw [hl, List.take_length] at this
    exact this
  · have hi := (List.getElem?_eq_some_iff.mp e).1
    exact t3 i t' (by rw [List.getElem?_append_left hi]; exact e)
theorem fix_new {H H' : Hp} {ms : List Addr} {y : Addr} {o : HO} (al : ∀ x ∈ ms, H x ≠ none) (h : H' y = some o) (hn : H y = none) : fixH H' ms y = some o := fix_get h fun z => al y z hn
/-- a stand more -/
theorem DeskAt.push {C CD : Addr} {H Hp' H4 H5 H6 : Hp} {ms : List Addr} {d dx st un un' t : Addr} {ts : List Addr} {D G : List XD} {x : XD} (h : DeskAt C CD H ms d dx st un D G) (al : ∀ x ∈ ms, H x ≠ none) (s : Same H Hp') (ht : StandAt C (fixH Hp' ms) t (D ++ [x])) (hts : H st = some (.lst (ts.map V.ref))) (m4 : Mv Hp' st H4) (e4 : H4 st = some (.lst (ts.map V.ref ++ [.ref t]))) (n5 : H4 un' = none) (s5 : Same H4 H5) (e5 : H5 un' = some (.lst [])) (m6 : Mv H5 d H6) (e6 : H6 d = some (.ins CD dx (putF "undone" (.ref un') (deskFs st un)))) : H un' = none ∧ Fr [d, st] H H6 ∧ DeskAt C CD H6 (un' :: ms) d dx st un' (D ++ [x]) [] := by
  have f4 : Fr [d, st] H H4 := (Fr.of s).via (Fr.mv m4 (List.mem_cons_of_mem _ List.mem_cons_self))
  have f6' : Fr [d, st] Hp' H6 := (Fr.mv m4 (List.mem_cons_of_mem _ List.mem_cons_self)).via ((Fr.of s5).via (Fr.mv m6 List.mem_cons_self))
  have f6 : Fr [d, st] H H6 := (Fr.of s).via f6'
  have hun : H un' = none := by
    cases hq : H un' with
    | none => rfl
    | some o =>
      by_cases z : un' = st
      · rw [z, e4] at n5; cases n5
      · rw [m4 un' z, s _ _ hq] at n5; cases n5
  have hnp : Hp' un' = none := by
    cases hq : Hp' un' with
    | none => rfl
    | some o =>
      by_cases z : un' = st
      · rw [z, e4] at n5; cases n5
      · rw [m4 un' z, hq] at n5; cases n5
  have dun : d ≠ un' := ne_of_none h.ob hun
  have stun : st ≠ un' := ne_of_none hts hun
  have k1 : ∀ y ∈ [d, st], y ∈ ms := fun y hy => by
    rcases List.mem_cons.mp hy with rfl | hy
    · exact h.md
    · rw [List.mem_singleton.mp hy]; exact h.mst
  have sf : Same (fixH H ms) (fixH H6 (un' :: ms)) := fix_mono (f6.mono k1) (fun _ z => List.mem_cons_of_mem _ z) fun y hy => by
    rcases List.mem_cons.mp hy with rfl | hy
    · exact .inr hun
    · exact .inl hy
  have sf' : Same (fixH Hp' ms) (fixH H6 (un' :: ms)) := fix_mono (f6'.mono k1) (fun _ z => List.mem_cons_of_mem _ z) fun y hy => by
    rcases List.mem_cons.mp hy with rfl | hy
    · exact .inr hnp
    · exact .inl hy
  rw [put_un] at e6
  obtain ⟨ts', t1, t2, t3⟩ := h.sts
  obtain rfl : ts' = ts := by
    have : ts'.map V.ref = ts.map V.ref := by
      have e := Option.some.inj (t1.symm.trans hts)
      injection e
    exact (List.map_inj_right (fun a b e => V.ref.inj e)).mp this
  refine ⟨hun, f6, e6, List.mem_cons_of_mem _ h.md, List.mem_cons_of_mem _ h.mst, List.mem_cons_self, stun, h.nds, dun, ⟨ts' ++ [t], by rw [m6 st h.nds.symm, s5 _ _ e4, List.map_append] <;> rfl, by rw [List.length_append, List.length_append, t2] <;> rfl, fun i t' e => ?_⟩, ⟨[], by rw [m6 un' dun.symm]; exact e5, rfl, fun i u e => by simp at e⟩⟩
  by_cases hi : i < ts'.length
  · rw [List.getElem?_append_left hi] at e
    have := t3 i t' e
    rw [List.take_append_of_le_length (by omega)]
    exact this.same sf
  · have hi2 : i = ts'.length := by
      have := (List.getElem?_eq_some_iff.mp e).1
      rw [List.length_append, List.length_singleton] at this
      omega
    subst hi2
    rw [List.getElem?_append_right (Nat.le_refl _), Nat.sub_self] at e
    obtain rfl : t = t' := Option.some.inj e
    have : (D ++ [x]).take ts'.length = D ++ [x] := List.take_of_length_le (by rw [t2, List.length_append] <;> exact Nat.le_refl _)
    rw [this]
    exact ht.same sf'
/-! ### what a cell tells -/
inductive Act where
  | undo
  | redo
  | bad (xs : List V)
  | did (x : XD)
/-- as BadT, with the one word of no deed that is drawn -/
def BadA (xs : List V) : Prop := (∃ p n : Int, xs = [.str "open", .int p, .int n] ∧ n < 0) ∨ (∃ p n : Int, xs = [.str "close", .int p, .int n] ∧ n < 0) ∨ (∃ t : Int, xs = [.str "stretch", .int t] ∧ t < 1) ∨ xs = [.str "shut", .int 1, .int 1]
def actT : Act → List V
  | .undo => [.str "undo"]
  | .redo => [.str "redo"]
  | .bad xs => xs
  | .did x => xdT x
def ActOk : Act → Prop
  | .bad xs => BadA xs
  | .did x => XOk x
  | _ => True
theorem BadA.t {xs : List V} (h : BadA xs) : BadT xs := by
  rcases h with h | h | h | rfl
  · exact .inl h
  · exact .inr (.inl h)
  · exact .inr (.inr (.inl h))
  · exact .inr (.inr (.inr ⟨"shut", _, rfl, by decide +kernel, by decide +kernel, by decide +kernel, by decide +kernel⟩))
theorem deedT_head (d : Deed V) : ∃ z r, deedT d = .str z :: r ∧ decide (z = "mark") = false ∧ decide (z = "undo") = false ∧ decide (z = "redo") = false := by
  cases d with
  | put s e w => exact ⟨"put", _, rfl, by decide +kernel, by decide +kernel, by decide +kernel⟩
  | opn p n => exact ⟨"open", _, rfl, by decide +kernel, by decide +kernel, by decide +kernel⟩
  | cls p n => exact ⟨"close", _, rfl, by decide +kernel, by decide +kernel, by decide +kernel⟩
  | str t => exact ⟨"stretch", _, rfl, by decide +kernel, by decide +kernel, by decide +kernel⟩
theorem badA_head {xs : List V} (h : BadA xs) : ∃ z r, xs = .str z :: r ∧ decide (z = "mark") = false ∧ decide (z = "undo") = false ∧ decide (z = "redo") = false := by
  rcases h with ⟨p, n, rfl, _⟩ | ⟨p, n, rfl, _⟩ | ⟨t, rfl, _⟩ | rfl
  · exact ⟨"open", _, rfl, by decide +kernel, by decide +kernel, by decide +kernel⟩
  · exact ⟨"close", _, rfl, by decide +kernel, by decide +kernel, by decide +kernel⟩
  · exact ⟨"stretch", _, rfl, by decide +kernel, by decide +kernel, by decide +kernel⟩
  · exact ⟨"shut", _, rfl, by decide +kernel, by decide +kernel, by decide +kernel⟩
/-- what an act makes of what stands and what was undone; what it answers -/
def actD : Act → List XD → List XD → List XD
  | .undo, D, _ => D.dropLast
  | .redo, D, G => D ++ G.getLast?.toList
  | .bad _, D, _ => D
  | .did x, D, _ => D ++ [x]
def actG : Act → List XD → List XD → List XD
  | .undo, D, G => G ++ D.getLast?.toList
  | .redo, _, G => G.dropLast
  | .bad _, _, G => G
  | .did _, _, _ => []
def actA : Act → List XD → List XD → V
  | .undo, D, _ => if D = [] then .str "none" else .non
  | .redo, _, G => if G = [] then .str "none" else .non
  | .bad _, _, _ => .str "bad"
  | .did _, _, _ => .non
theorem al_fr {ks ms : List Addr} {H H' : Hp} (f : Fr ks H H') (al : ∀ x ∈ ms, H x ≠ none) (k : ∀ x ∈ ks, H' x ≠ none) : ∀ x ∈ ms, H' x ≠ none := fun x hx => by
  by_cases hk : x ∈ ks
  · exact k x hk
  · cases e : H x with
    | none => exact absurd e (al x hx)
    | some o =>
      rw [f x o e hk]
      exact fun z => nomatch z
theorem DeskAt.nz {C CD : Addr} {H : Hp} {ms : List Addr} {d dx st un : Addr} {D G : List XD} (h : DeskAt C CD H ms d dx st un D G) : H d ≠ none ∧ H st ≠ none ∧ H un ≠ none := by
  obtain ⟨_, e1, _⟩ := h.sts
  obtain ⟨_, e2, _⟩ := h.uns
  rw [h.ob, e1, e2]
  exact ⟨fun z => (nomatch z), fun z => (nomatch z), fun z => (nomatch z)⟩
theorem nm3_at {i : Int} (h0 : 0 ≤ i) (h1 : i < 3) : ∃ z, atI [V.str "a", .str "peg", .str "zz"] i = some (.str z) ∧ Nm z := by
  have h : i = 0 ∨ i = 1 ∨ i = 2 := by omega
  rcases h with rfl | rfl | rfl
  · exact ⟨_, rfl, .inl rfl⟩
  · exact ⟨_, rfl, .inr (.inl rfl)⟩
  · exact ⟨_, rfl, .inr (.inr rfl)⟩
theorem four_at {v1 v2 v3 v4 : V} {i : Int} (h0 : 0 ≤ i) (h1 : i < 4) : ∃ v, atI [v1, v2, v3, v4] i = some v ∧ (v = v1 ∨ v = v2 ∨ v = v3 ∨ v = v4) := by
  have h : i = 0 ∨ i = 1 ∨ i = 2 ∨ i = 3 := by omega
  rcases h with rfl | rfl | rfl | rfl
  · exact ⟨_, rfl, .inl rfl⟩
  · exact ⟨_, rfl, .inr (.inl rfl)⟩
  · exact ⟨_, rfl, .inr (.inr (.inl rfl))⟩
  · exact ⟨_, rfl, .inr (.inr (.inr rfl))⟩
/-- the first word of what is drawn -/
theorem act_head {act : Act} (h : ActOk act) : ∃ z r, actT act = .str z :: r := by
  cases act with
  | undo => exact ⟨_, _, rfl⟩
  | redo => exact ⟨_, _, rfl⟩
  | bad xs =>
    obtain ⟨z, r, e, _⟩ := badA_head h
    exact ⟨z, r, e⟩
  | did x =>
    cases x with
    | mark n y => exact ⟨_, _, rfl⟩
    | deed g =>
      obtain ⟨z, r, e, _⟩ := deedT_head g
      exact ⟨z, r, e⟩
theorem w_uu : decide (("undo" : Str) = "undo") = true := by decide +kernel
theorem w_ru : decide (("redo" : Str) = "undo") = false := by decide +kernel
theorem w_rr : decide (("redo" : Str) = "redo") = true := by decide +kernel
theorem w_mu : decide (("mark" : Str) = "undo") = false := by decide +kernel
theorem w_mr : decide (("mark" : Str) = "redo") = false := by decide +kernel
theorem w_mm : decide (("mark" : Str) = "mark") = true := by decide +kernel
theorem w_mo : decide (("mark" : Str) = "open") = false := by decide +kernel
theorem w_mc : decide (("mark" : Str) = "close") = false := by decide +kernel
theorem w_ms : decide (("mark" : Str) = "stretch") = false := by decide +kernel
theorem w_mh : decide (("mark" : Str) = "shut") = false := by decide +kernel
theorem w_ho : decide (("shut" : Str) = "open") = false := by decide +kernel
theorem w_hc : decide (("shut" : Str) = "close") = false := by decide +kernel
theorem w_hh : decide (("shut" : Str) = "shut") = true := by decide +kernel
theorem w_sh : decide (("stretch" : Str) = "shut") = false := by decide +kernel
theorem w_ph : decide (("put" : Str) = "shut") = false := by decide +kernel
/-! ### marks told in order -/
abbrev leS (a b : Str) : Prop := ltCps b.cps.toList a.cps.toList = false
theorem le3 {a b : Str} (ha : Nm a) (hb : Nm b) (h : leS a b) (h' : leS b a) : a = b := by
  rcases ha with rfl | rfl | rfl <;> rcases hb with rfl | rfl | rfl <;> first | rfl | exact absurd h (by decide +kernel) | exact absurd h' (by decide +kernel)
theorem le3_trans {a b c : Str} (ha : Nm a) (hb : Nm b) (hc : Nm c) (h : leS a b) (h' : leS b c) : leS a c := by
  rcases ha with rfl | rfl | rfl <;> rcases hb with rfl | rfl | rfl <;> rcases hc with rfl | rfl | rfl <;> first | exact h | exact h' | (show ltCps _ _ = false; decide +kernel) | exact absurd h (by decide +kernel) | exact absurd h' (by decide +kernel)
theorem rising_pw : ∀ {r : List Str} {p : Str}, Nm p → (∀ x ∈ r, Nm x) → risingS p r = true → (p :: r).Pairwise leS
  | [], p, _, _, _ => List.pairwise_singleton _ _
  | x :: r, p, hp, hr, h => by
    unfold risingS at h
    obtain ⟨h1, h2⟩ := Bool.and_eq_true_iff.mp h
    have hx := hr x List.mem_cons_self
    have ih := rising_pw hx (fun y hy => hr y (List.mem_cons_of_mem _ hy)) h2
    have h1 : leS p x := by
      have : (!ltCps x.cps.toList p.cps.toList) = true := h1
      show ltCps x.cps.toList p.cps.toList = false
      cases q : ltCps x.cps.toList p.cps.toList with
      | false => rfl
      | true => rw [q] at this; cases this
    refine List.pairwise_cons.mpr ⟨fun y hy => ?_, ih⟩
    rcases List.mem_cons.mp hy with rfl | hy
    · exact h1
    · exact le3_trans hp hx (hr y (List.mem_cons_of_mem _ hy)) h1 ((List.pairwise_cons.mp ih).1 y hy)
theorem sorted_pw {ys : List Str} (hn : ∀ x ∈ ys, Nm x) (h : sortedS ys = true) : ys.Pairwise leS := by
  cases ys with
  | nil => exact List.Pairwise.nil
  | cons p r => exact rising_pw (hn p List.mem_cons_self) (fun x hx => hn x (List.mem_cons_of_mem _ hx)) h
theorem sorted_one {ks ys zs : List Str} (hn : ∀ x ∈ ks, Nm x) (h1 : ys.Perm ks) (h2 : zs.Perm ks) (s1 : sortedS ys = true) (s2 : sortedS zs = true) : ys = zs :=
  List.Perm.eq_of_pairwise (le := leS) (fun a b ha hb h h' => le3 (hn a (h1.mem_iff.mp ha)) (hn b (h2.mem_iff.mp hb)) h h') (sorted_pw (fun x hx => hn x (h1.mem_iff.mp hx)) s1) (sorted_pw (fun x hx => hn x (h2.mem_iff.mp hx)) s2) (h1.trans h2.symm)
theorem Nm.hv {z : Str} (h : Nm z) : HV (.str z) := by
  rcases h with rfl | rfl | rfl
  · exact .inr ⟨_, ⟨by decide, by decide, by decide⟩, rfl⟩
  · exact .inr ⟨_, ⟨by decide, by decide, by decide⟩, rfl⟩
  · exact .inr ⟨_, ⟨by decide, by decide, by decide⟩, rfl⟩
theorem marks_nm : ∀ (n : Nat) (D : List XD), D.length = n → (∀ x ∈ D, XOk x) → ∀ k ∈ (marks D).map (·.1), Nm k
  | 0, D, h, _ => by
    rw [List.length_eq_zero_iff.mp h]
    exact fun k hk => nomatch hk
  | n + 1, D, h, hok => by
    have hne : D ≠ [] := fun z => by rw [z] at h; cases h
    have ih := marks_nm n D.dropLast (by rw [List.length_dropLast, h]; rfl) fun x hx => hok x ((List.dropLast_sublist D).subset hx)
    have hl := hok _ (List.getLast_mem hne)
    rw [← List.dropLast_concat_getLast hne, marks_snoc]
    revert hl
    cases D.getLast hne with
    | mark m x =>
      intro hl k hk
      rw [show mstep (marks D.dropLast) (.mark m x) = mput (marks D.dropLast) m x from rfl, mput_keys] at hk
      split at hk
      · exact ih k hk
      · rcases List.mem_append.mp hk with hk | hk
        · exact ih k hk
        · rw [List.mem_singleton.mp hk]
          exact hl
    | deed d =>
      intro hl k hk
      refine ih k ?_
      rw [show mstep (marks D.dropLast) (.deed d) = (marks D.dropLast).map (fun q => (q.1, moved d q.2)) from rfl, List.map_map] at hk
      exact hk
/-- partly changed -/
theorem mix_nod {M : Mk'} {j : Nat} {g : Int → Int} (h : Nod M) : Nod (((M.take j).map fun q => (q.1, g q.2)) ++ M.drop j) := by
  show (List.map _ _).Nodup
  have e : (((M.take j).map fun q => (q.1, g q.2)) ++ M.drop j).map (·.1) = M.map (·.1) := by
    rw [List.map_append, List.map_map]
    conv => rhs; rw [← List.take_append_drop j M, List.map_append]
    rfl
  rw [e]
  exact h
theorem mix_at {M : Mk'} {j : Nat} {p : Str × Int} {g : Int → Int} (h : Nod M) (hp : M[j]? = some p) : valV (kOf (((M.take j).map fun q => (q.1, g q.2)) ++ M.drop j)) (.inr p.1) = some (.int p.2) := by
  have hj := (List.getElem?_eq_some_iff.mp hp).1
  refine kOf_val (i := j) (mix_nod h) ?_
  have hl : ((M.take j).map fun q => (q.1, g q.2)).length = j := by rw [List.length_map, List.length_take]; omega
  rw [List.getElem?_append_right (by rw [hl]; exact Nat.le_refl _), hl, Nat.sub_self, List.getElem?_drop, Nat.add_zero]
  exact hp
theorem mix_len {M : Mk'} {j : Nat} {g : Int → Int} : (((M.take j).map fun q => (q.1, g q.2)) ++ M.drop j).length = M.length := by
  rw [List.length_append, List.length_map, ← List.length_append, List.take_append_drop]
theorem kOf_int : ∀ {M : Mk'} {k : L2.Key} {v : V}, valV (kOf M) k = some v → ∃ i, v = .int i
  | [], _, _, h => nomatch h
  | q :: r, k, v, h => by
    by_cases e : (Sum.inr q.1 : L2.Key) = k
    · have h2 : valV ((Sum.inr q.1, V.int q.2) :: kOf r) k = some v := h
      rw [valV_pos e] at h2
      exact ⟨q.2, (Option.some.inj h2).symm⟩
    · have h2 : valV ((Sum.inr q.1, V.int q.2) :: kOf r) k = some v := h
      rw [valV_neg e] at h2
      exact kOf_int h2
end Cut
/-! promises of the desk and its law's helpers -/
namespace Cut
open PySem PySem.Spec PyProof.Rows L2 Wk
theorem LineNew.back {C : Addr} {H H1 H' : Hp} {p : Addr} {cs : List Int} {hs : List V} (s : Same H H1) (h : LineNew C H1 H' p cs hs) : LineNew C H H' p cs hs := by
  obtain ⟨dx, lc, lh, a, b, c⟩ := h
  exact ⟨dx, lc, lh, Wk.fresh_back s a, Wk.fresh_back s b, c⟩
/-- as DoneK, and the line's lists are new -/
def DoneKN (C : Addr) (H : Hp) (Q : VK) (v : V) (ps : List (Int × V)) (d : Deed V) : Prop := ∀ (H' : Hp) (p' : Addr) (v' : V) (ps' : List (Int × V)), H p' = none → Same H H' → LineOk C H' p' v' ps' → LineNew C H H' p' (cuts ps') (holds v' ps') → ps'.length ≤ ps.length + 2 → (∀ x, at_ v' ps' x = back .non (at_ v ps) d x) → Q (.ref p') H'
def sp_empty_lineN (C : Addr) : Sp := fun vs H Q _ => vs = [] ∧ ∀ (H' : Hp) (p : Addr), H p = none → Same H H' → LineNew C H H' p [] [.non] → Q (.ref p) H'
def sp_putN (C : Addr) : Sp := fun vs H Q _ => ∃ (p : Addr) (v : V) (ps : List (Int × V)) (s e : Option Int) (w : V), vs = [.ref p, optV s, optV e, w] ∧ LineOk C H p v ps ∧ HV w ∧ ps.length ≤ 900 ∧ DoneKN C H Q v ps (.put s e w)
def sp_openedXN (C D : Addr) : Sp := fun vs H Q E => ∃ (p : Addr) (v : V) (ps : List (Int × V)) (x n : Int), vs = [.ref p, .int x, .int n] ∧ LineOk C H p v ps ∧ ps.length ≤ 900 ∧ ((n < 0 ∧ E (.ref D) none H) ∨ (0 ≤ n ∧ DoneKN C H Q v ps (.opn x n)))
def sp_closedXN (C D : Addr) : Sp := fun vs H Q E => ∃ (p : Addr) (v : V) (ps : List (Int × V)) (x n : Int), vs = [.ref p, .int x, .int n] ∧ LineOk C H p v ps ∧ ps.length ≤ 900 ∧ ((n < 0 ∧ E (.ref D) none H) ∨ (0 ≤ n ∧ DoneKN C H Q v ps (.cls x n)))
def sp_stretchedXN (C D : Addr) : Sp := fun vs H Q E => ∃ (p : Addr) (v : V) (ps : List (Int × V)) (t : Int), vs = [.ref p, .int t] ∧ LineOk C H p v ps ∧ ps.length ≤ 900 ∧ ((t < 1 ∧ E (.ref D) none H) ∨ (1 ≤ t ∧ t ≤ 3 ∧ DoneKN C H Q v ps (.str t)))
def sp_doneXN (C D : Addr) : Sp := fun vs H Q E => ∃ (p a : Addr) (v : V) (ps : List (Int × V)), vs = [.ref p, .ref a] ∧ LineOk C H p v ps ∧ ps.length ≤ 900 ∧
  ((∃ xs, H a = some (.tup xs) ∧ BadT xs ∧ E (.ref D) none H) ∨ ∃ d, H a = some (.tup (deedT d)) ∧ DOk d ∧ DoneKN C H Q v ps d)
/-- a row of marks and deeds -/
def RowAt (F H : Hp) (l : Addr) (X : List XD) : Prop := ∃ as : List Addr, H l = some (.lst (as.map V.ref)) ∧ as.length = X.length ∧ ∀ (i : Nat) a x, as[i]? = some a → X[i]? = some x → F a = some (.tup (xdT x))
def RowOf (F : Hp) (as : List Addr) (X : List XD) : Prop := as.length = X.length ∧ ∀ (i : Nat) a x, as[i]? = some a → X[i]? = some x → F a = some (.tup (xdT x))
theorem RowAt.of {F H : Hp} {l : Addr} {X : List XD} {as : List Addr} (h : H l = some (.lst (as.map V.ref))) (r : RowOf F as X) : RowAt F H l X := ⟨as, h, r.1, r.2⟩
theorem RowAt.get {F H : Hp} {l : Addr} {X : List XD} (h : RowAt F H l X) : ∃ as, H l = some (.lst (as.map V.ref)) ∧ RowOf F as X := by
  obtain ⟨as, a, b, c⟩ := h
  exact ⟨as, a, b, c⟩
theorem RowOf.same {F F' : Hp} {as : List Addr} {X : List XD} (s : Same F F') (h : RowOf F as X) : RowOf F' as X := ⟨h.1, fun i a x e e2 => s _ _ (h.2 i a x e e2)⟩
theorem RowOf.nil {F : Hp} : RowOf F [] [] := ⟨rfl, fun i a x e => by simp at e⟩
theorem RowOf.snoc {F : Hp} {as : List Addr} {X : List XD} {a : Addr} {x : XD} (h : RowOf F as X) (ha : F a = some (.tup (xdT x))) : RowOf F (as ++ [a]) (X ++ [x]) := by
  refine ⟨by rw [List.length_append, List.length_append, h.1] <;> rfl, fun i a' x' e1 e2 => ?_⟩
  by_cases hi : i < as.length
  · rw [List.getElem?_append_left hi] at e1
    rw [List.getElem?_append_left (by rw [← h.1]; exact hi)] at e2
    exact h.2 i a' x' e1 e2
  · have hi2 : i = as.length := by
      have := (List.getElem?_eq_some_iff.mp e1).1
      rw [List.length_append, List.length_singleton] at this
      omega
    subst hi2
    rw [List.getElem?_append_right (Nat.le_refl _), Nat.sub_self] at e1
    rw [h.1, List.getElem?_append_right (Nat.le_refl _), Nat.sub_self] at e2
    cases e1
    cases e2
    exact ha
theorem RowOf.last {F : Hp} {as : List Addr} {X : List XD} {x : XD} (h : RowOf F as (X ++ [x])) : ∃ as0 a, as = as0 ++ [a] ∧ RowOf F as0 X ∧ F a = some (.tup (xdT x)) := by
  have hl := h.1
  rw [List.length_append, List.length_singleton] at hl
  have hne : as ≠ [] := fun z => by rw [z] at hl; simp at hl
  obtain ⟨as0, a, rfl⟩ : ∃ as0 a, as = as0 ++ [a] := ⟨as.dropLast, as.getLast hne, (List.dropLast_concat_getLast hne).symm⟩
  have hl0 : as0.length = X.length := by rw [List.length_append, List.length_singleton] at hl; omega
  refine ⟨as0, a, rfl, ⟨hl0, fun i a' x' e1 e2 => h.2 i a' x' ?_ ?_⟩, h.2 as0.length a x ?_ ?_⟩
  · rw [List.getElem?_append_left (List.getElem?_eq_some_iff.mp e1).1]; exact e1
  · rw [List.getElem?_append_left (List.getElem?_eq_some_iff.mp e2).1]; exact e2
  · rw [List.getElem?_append_right (Nat.le_refl _), Nat.sub_self] <;> rfl
  · rw [hl0, List.getElem?_append_right (Nat.le_refl _), Nat.sub_self] <;> rfl
abbrev isD : XD → Bool
  | .deed _ => true
  | _ => false
theorem goods_zip {F : Hp} : ∀ {ds : List Addr} {X : List XD}, RowOf F ds X → (∀ x ∈ X, XOk x) → ((((ds.zip X).filter fun q => isD q.2).map (·.1)).length = (goods X).length ∧ ∀ (i : Nat) b d, (((ds.zip X).filter fun q => isD q.2).map (·.1))[i]? = some b → (goods X)[i]? = some d → F b = some (.tup (deedT d)) ∧ DOk d)
  | [], [], _, _ => ⟨rfl, fun i b d e => by simp at e⟩
  | [], x :: X, h, _ => by have := h.1; simp at this
  | a :: ds, [], h, _ => by have := h.1; simp at this
  | a :: ds, x :: X, h, hok => by
    have h' : RowOf F ds X := ⟨Nat.succ.inj h.1, fun i b y e1 e2 => h.2 (i + 1) b y e1 e2⟩
    obtain ⟨i1, i2⟩ := goods_zip h' fun y hy => hok y (List.mem_cons_of_mem _ hy)
    have ha := h.2 0 a x rfl rfl
    have hx := hok x List.mem_cons_self
    cases x with
    | mark n y =>
      show ((((ds.zip X).filter fun q => isD q.2).map (·.1)).length = (goods X).length ∧ _)
      exact ⟨i1, i2⟩
    | deed g =>
      refine ⟨congrArg Nat.succ i1, fun i b d e1 e2 => ?_⟩
      cases i with
      | zero =>
        cases e1
        cases e2
        exact ⟨ha, hx⟩
      | succ i => exact i2 i b d e1 e2
section
variable (K : PySem.W.Frag) (C CD DB DN : Addr)
def sp_Desk_init : Sp := fun vs H Q _ => ∃ (d dx : Addr) (ms : List Addr), vs = [.ref d] ∧ H d = some (.ins CD dx []) ∧ (∀ x ∈ ms, H x ≠ none) ∧
  ∀ (H' : Hp) (st un : Addr), H st = none → H un = none → Fr [d] H H' → DeskAt C CD H' (d :: st :: un :: ms) d dx st un [] [] → Q .non H'
def sp_Desk_line : Sp := fun vs H Q _ => ∃ (d dx st un : Addr) (ms : List Addr) (D G : List XD), vs = [.ref d] ∧ DeskAt C CD H ms d dx st un D G ∧
  ∀ (p : Addr) (v : V) (ps : List (Int × V)), LineOk C (fixH H ms) p v ps → ps.length ≤ 2 * D.length → (∀ x, at_ v ps x = after .non (goods D) x) → Q (.ref p) H
def sp_Desk_where : Sp := fun vs H Q _ => ∃ (d dx st un : Addr) (ms : List Addr) (D G : List XD) (n : Str), vs = [.ref d, .str n] ∧ DeskAt C CD H ms d dx st un D G ∧ Q ((valV (kOf (marks D)) (.inr n)).getD .non) H
def sp_Desk_names : Sp := fun vs H Q _ => ∃ (d dx st un : Addr) (ms : List Addr) (D G : List XD), vs = [.ref d] ∧ DeskAt C CD H ms d dx st un D G ∧ D.length ≤ 62 ∧
  ∀ (H' : Hp) (q : Addr) (ys : List Str), H q = none → Same H H' → ys.Perm ((marks D).map (·.1)) → sortedS ys = true → H' q = some (.lst (ys.map V.str)) → Q (.ref q) H'
def sp_Desk_undo : Sp := fun vs H Q E => ∃ (d dx st un : Addr) (ms : List Addr) (D G : List XD), vs = [.ref d] ∧ DeskAt C CD H ms d dx st un D G ∧ D.length ≤ 62 ∧ G.length ≤ 62 ∧
  ((D = [] ∧ E (.ref DN) none H) ∨ ∃ D0 x, D = D0 ++ [x] ∧ ∀ H', Fr [st, un] H H' → DeskAt C CD H' ms d dx st un D0 (G ++ [x]) → Q .non H')
def sp_Desk_redo : Sp := fun vs H Q E => ∃ (d dx st un : Addr) (ms : List Addr) (D G : List XD), vs = [.ref d] ∧ DeskAt C CD H ms d dx st un D G ∧ D.length ≤ 62 ∧ G.length ≤ 62 ∧
  ((G = [] ∧ ∀ H', Same H H' → E (.ref DN) none H') ∨ ∃ G0 x, G = G0 ++ [x] ∧ ∀ H', Fr [st, un] H H' → DeskAt C CD H' ms d dx st un (D ++ [x]) G0 → Q .non H')
def sp_Desk_do : Sp := fun vs H Q E => ∃ (d dx st un a : Addr) (ms : List Addr) (D G : List XD), vs = [.ref d, .ref a] ∧ DeskAt C CD H ms d dx st un D G ∧ D.length ≤ 62 ∧ (∀ x ∈ ms, H x ≠ none) ∧
  ((∃ xs, H a = some (.tup xs) ∧ BadA xs ∧ ∀ H', Same H H' → E (.ref DB) none H') ∨ ∃ x, H a = some (.tup (xdT x)) ∧ XOk x ∧
    ∀ (H' : Hp) (un' : Addr), H un' = none → Fr [d, st] H H' → DeskAt C CD H' (un' :: ms) d dx st un' (D ++ [x]) [] → Q .non H')
/-! the law's -/
def sp_law_next : Sp := fun vs H Q _ => ∃ (a : Addr) (i j : Int) (n1 n2 n3 n4 : V), vs = [.int i, .int j, .ref a] ∧ SqL K H a [n1, n2, n3, n4] ∧ HV n1 ∧ HV n2 ∧ HV n3 ∧ HV n4 ∧
  ∀ (H' : Hp) (t : Addr) (act : Act), H t = none → Same H H' → H' t = some (.tup (actT act)) → ActOk act → Q (.ref t) H'
def sp_law_marks : Sp := fun vs H Q _ => ∃ (l : Addr) (D : List XD), vs = [.ref l] ∧ RowAt H H l D ∧ (∀ x ∈ D, XOk x) ∧ D.length ≤ 62 ∧ ∀ (H' : Hp) (q : Addr), H q = none → Same H H' → H' q = some (.dK (kOf (marks D))) → Q (.ref q) H'
def sp_law_does : Sp := fun vs H Q _ => ∃ (d dx st un a : Addr) (ms : List Addr) (D G : List XD) (act : Act), vs = [.ref d, .ref a] ∧ DeskAt C CD H ms d dx st un D G ∧ D.length ≤ 62 ∧ G.length ≤ 62 ∧ (∀ x ∈ ms, H x ≠ none) ∧ H a = some (.tup (actT act)) ∧ ActOk act ∧
  ∀ (H' : Hp) (ms' : List Addr) (un' : Addr), (∀ x ∈ ms', H' x ≠ none) → (∀ x ∈ ms, x ∈ ms') → (∀ x ∈ ms', x ∈ ms ∨ H x = none) → Fr [d, st, un] H H' → (un' = un ∨ H un' = none) → DeskAt C CD H' ms' d dx st un' (actD act D G) (actG act D G) → Q (actA act D G) H'
def sp_law_ill : Sp := fun vs H Q _ => ∃ (a : Addr) (act : Act), vs = [.ref a] ∧ H a = some (.tup (actT act)) ∧ ActOk act ∧ (match act with | .bad _ => ∀ H', Same H H' → Q (.bl true) H' | .did (.mark _ _) => ∀ H', Same H H' → Q (.bl false) H' | .did (.deed _) => ∀ H', Same H H' → Q (.bl false) H' | _ => False)
def sp_law_none_alone : Sp := fun vs H Q _ => ∃ (d dx st un : Addr) (ms : List Addr) (D G : List XD) (z : Str), vs = [.ref d, .str z] ∧ DeskAt C CD H ms d dx st un D G ∧ D.length ≤ 62 ∧ G.length ≤ 62 ∧ ((z = "undo" ∧ D = []) ∨ (z = "redo" ∧ G = [])) ∧ ∀ H', Same H H' → Q (.bl true) H'
def sp_law_due_of : Sp := fun vs H Q _ => ∃ (s dl gl a : Addr) (ms : List Addr) (D G : List XD) (act : Act), vs = [.ref s, .ref a] ∧ H s = some (.tup [.ref dl, .ref gl]) ∧ dl ≠ gl ∧ dl ∈ ms ∧ gl ∈ ms ∧ a ∉ ms ∧ s ∉ ms ∧ RowAt (fixH H ms) H dl D ∧ RowAt (fixH H ms) H gl G ∧ D.length ≤ 62 ∧ G.length ≤ 62 ∧ H a = some (.tup (actT act)) ∧ ActOk act ∧
  ∀ (H' : Hp), Fr [dl, gl] H H' → RowAt (fixH H' ms) H' dl (actD act D G) → RowAt (fixH H' ms) H' gl (actG act D G) → Q (actA act D G) H'
def sp_law_marks_right : Sp := fun vs H Q _ => ∃ (d dx st un q : Addr) (ms : List Addr) (D G : List XD), vs = [.ref d, .ref q] ∧ DeskAt C CD H ms d dx st un D G ∧ D.length ≤ 62 ∧ (∀ x ∈ D, XOk x) ∧ H q = some (.dK (kOf (marks D))) ∧ ∀ H', Same H H' → Q (.bl true) H'
def sp_law_stands : Sp := fun vs H Q _ => ∃ (d dx st un l : Addr) (ms : List Addr) (D G : List XD), vs = [.ref d, .ref l] ∧ DeskAt C CD H ms d dx st un D G ∧ RowAt H H l D ∧ (∀ x ∈ D, XOk x) ∧ D.length ≤ 62 ∧ ∀ H', Same H H' → Q (.bl true) H'
end
/-! ### both desks and the rows that are kept beside them -/
theorem RowAt.un {H : Hp} {ms : List Addr} {l : Addr} {X : List XD} (h : RowAt (fixH H ms) H l X) : RowAt H H l X := by
  obtain ⟨as, a, b⟩ := h.get
  exact .of a (b.same fix_same)
structure Two (C CD : Addr) (H : Hp) (ms : List Addr) (d dx st un d2 dx2 st2 un2 dl gl : Addr) (D G X Y : List XD) : Prop where
  k1 : DeskAt C CD H ms d dx st un D G
  k2 : DeskAt C CD H ms d2 dx2 st2 un2 [] []
  al : ∀ x ∈ ms, H x ≠ none
  r1 : RowAt (fixH H ms) H dl X
  r2 : RowAt (fixH H ms) H gl Y
  m1 : dl ∈ ms
  m2 : gl ∈ ms
  ne : dl ≠ gl
  x1 : ∀ y ∈ [d2, st2, un2, dl, gl], y ∉ [d, st, un]
  x2 : ∀ y ∈ [dl, gl], y ∉ [d2, st2, un2]
theorem Two.step {C CD : Addr} {H H' : Hp} {ms ms' : List Addr} {d dx st un d2 dx2 st2 un2 dl gl : Addr} {D G X Y : List XD} (T : Two C CD H ms d dx st un d2 dx2 st2 un2 dl gl D G X Y) {ks : List Addr} (f : Fr ks H H') (hk : ∀ x ∈ ks, x ∈ ms) (hm : ∀ x ∈ ms, x ∈ ms') (hn : ∀ x ∈ ms', x ∈ ms ∨ H x = none) : Same (fixH H ms) (fixH H' ms') := fix_mono (f.mono hk) hm hn
theorem Two.same {C CD : Addr} {H H' : Hp} {ms : List Addr} {d dx st un d2 dx2 st2 un2 dl gl : Addr} {D G X Y : List XD} (T : Two C CD H ms d dx st un d2 dx2 st2 un2 dl gl D G X Y) (s : Same H H') : Two C CD H' ms d dx st un d2 dx2 st2 un2 dl gl D G X Y ∧ Same (fixH H ms) (fixH H' ms) := by
  have f : Fr [] H H' := Fr.of s
  have n : ∀ x ∈ ([] : List Addr), x ∈ ms := fun _ h => nomatch h
  have sf := T.step f n (fun _ h => h) fun _ h => .inl h
  obtain ⟨as, a1, a2⟩ := T.r1.get
  obtain ⟨bs, b1, b2⟩ := T.r2.get
  exact ⟨⟨T.k1.move f n (fun h => nomatch h) (fun h => nomatch h) (fun h => nomatch h) (fun _ h => h) (fun _ h => .inl h), T.k2.move f n (fun h => nomatch h) (fun h => nomatch h) (fun h => nomatch h) (fun _ h => h) (fun _ h => .inl h), al_fr f T.al (fun _ h => nomatch h), .of (s _ _ a1) (a2.same sf), .of (s _ _ b1) (b2.same sf), T.m1, T.m2, T.ne, T.x1, T.x2⟩, sf⟩
theorem Two.does {C CD : Addr} {H H' : Hp} {ms ms' : List Addr} {d dx st un un' d2 dx2 st2 un2 dl gl : Addr} {D G D' G' X Y : List XD} (T : Two C CD H ms d dx st un d2 dx2 st2 un2 dl gl D G X Y) (al : ∀ x ∈ ms', H' x ≠ none) (hm : ∀ x ∈ ms, x ∈ ms') (hn : ∀ x ∈ ms', x ∈ ms ∨ H x = none) (f : Fr [d, st, un] H H') (hu : un' = un ∨ H un' = none) (k : DeskAt C CD H' ms' d dx st un' D' G') : Two C CD H' ms' d dx st un' d2 dx2 st2 un2 dl gl D' G' X Y ∧ Same (fixH H ms) (fixH H' ms') := by
  have n : ∀ x ∈ [d, st, un], x ∈ ms := fun x hx => by
    rcases List.mem_cons.mp hx with rfl | hx
    · exact T.k1.md
    · rcases List.mem_cons.mp hx with rfl | hx
      · exact T.k1.mst
      · rw [List.mem_singleton.mp hx]; exact T.k1.mun
  have sf := T.step f n hm hn
  obtain ⟨as, a1, a2⟩ := T.r1.get
  obtain ⟨bs, b1, b2⟩ := T.r2.get
  obtain ⟨z1, z2, z3⟩ := T.k2.nz
  refine ⟨⟨k, T.k2.move f n (T.x1 _ (by simp)) (T.x1 _ (by simp)) (T.x1 _ (by simp)) hm hn, al, .of (f _ _ a1 (T.x1 _ (by simp))) (a2.same sf), .of (f _ _ b1 (T.x1 _ (by simp))) (b2.same sf), hm _ T.m1, hm _ T.m2, T.ne, fun y hy => ?_, T.x2⟩, sf⟩
  have hx := T.x1 y hy
  have hy0 : H y ≠ none := by
    simp only [List.mem_cons, List.not_mem_nil, or_false] at hy
    rcases hy with rfl | rfl | rfl | rfl | rfl
    · exact z1
    · exact z2
    · exact z3
    · exact T.al _ T.m1
    · exact T.al _ T.m2
  intro h
  simp only [List.mem_cons, List.not_mem_nil, or_false] at h hx
  rcases h with h | h | h
  · exact hx (.inl h)
  · exact hx (.inr (.inl h))
  · rcases hu with rfl | hu
    · exact hx (.inr (.inr h))
    · rw [h] at hy0
      exact hy0 hu
theorem Two.due {C CD : Addr} {H H' : Hp} {ms : List Addr} {d dx st un d2 dx2 st2 un2 dl gl : Addr} {D G X Y X' Y' : List XD} (T : Two C CD H ms d dx st un d2 dx2 st2 un2 dl gl D G X Y) (f : Fr [dl, gl] H H') (q1 : RowAt (fixH H' ms) H' dl X') (q2 : RowAt (fixH H' ms) H' gl Y') : Two C CD H' ms d dx st un d2 dx2 st2 un2 dl gl D G X' Y' ∧ Same (fixH H ms) (fixH H' ms) := by
  have n : ∀ x ∈ [dl, gl], x ∈ ms := fun x hx => by
    rcases List.mem_cons.mp hx with rfl | hx
    · exact T.m1
    · rw [List.mem_singleton.mp hx]; exact T.m2
  have sf := T.step f n (fun _ h => h) fun _ h => .inl h
  have away : ∀ y ∈ [d, st, un, d2, st2, un2], y ∉ [dl, gl] := fun y hy hz => by
    have a := T.x1
    have b := T.x2
    simp only [List.mem_cons, List.not_mem_nil, or_false] at hy hz a b
    have a1 := a y (by rcases hz with h | h <;> simp [h])
    have b1 := b y hz
    rcases hy with h | h | h | h | h | h
    · exact a1 (.inl h)
    · exact a1 (.inr (.inl h))
    · exact a1 (.inr (.inr h))
    · exact b1 (.inl h)
    · exact b1 (.inr (.inl h))
    · exact b1 (.inr (.inr h))
  refine ⟨⟨T.k1.move f n (away _ (by simp)) (away _ (by simp)) (away _ (by simp)) (fun _ h => h) (fun _ h => .inl h), T.k2.move f n (away _ (by simp)) (away _ (by simp)) (away _ (by simp)) (fun _ h => h) (fun _ h => .inl h), al_fr f T.al (fun y hy => ?_), q1, q2, T.m1, T.m2, T.ne, T.x1, T.x2⟩, sf⟩
  obtain ⟨as, a1, a2⟩ := q1.get
  obtain ⟨bs, b1, b2⟩ := q2.get
  rcases List.mem_cons.mp hy with rfl | hy
  · rw [a1]; exact fun z => nomatch z
  · rw [List.mem_singleton.mp hy, b1]; exact fun z => nomatch z
theorem act_hv (act : Act) (D G : List XD) : HV (actA act D G) := by
  cases act with
  | undo =>
    show HV (if D = [] then .str "none" else .non)
    split
    · exact .inr ⟨_, ⟨by decide, by decide, by decide⟩, rfl⟩
    · exact .inl rfl
  | redo =>
    show HV (if G = [] then .str "none" else .non)
    split
    · exact .inr ⟨_, ⟨by decide, by decide, by decide⟩, rfl⟩
    · exact .inl rfl
  | bad xs => exact .inr ⟨_, ⟨by decide, by decide, by decide⟩, rfl⟩
  | did x => exact .inl rfl
theorem act_len (act : Act) (D G : List XD) {n : Nat} (h1 : D.length ≤ n) (h2 : G.length ≤ n) : (actD act D G).length ≤ n + 1 ∧ (actG act D G).length ≤ n + 1 := by
  have e1 : D.getLast?.toList.length ≤ 1 := by cases D.getLast? <;> simp
  have e2 : G.getLast?.toList.length ≤ 1 := by cases G.getLast? <;> simp
  cases act with
  | undo =>
    show D.dropLast.length ≤ n + 1 ∧ (G ++ D.getLast?.toList).length ≤ n + 1
    rw [List.length_dropLast, List.length_append]
    omega
  | redo =>
    show (D ++ G.getLast?.toList).length ≤ n + 1 ∧ G.dropLast.length ≤ n + 1
    rw [List.length_dropLast, List.length_append]
    omega
  | bad xs => exact ⟨by show D.length ≤ _; omega, by show G.length ≤ _; omega⟩
  | did x => exact ⟨by show (D ++ [x]).length ≤ _; rw [List.length_append, List.length_singleton]; omega, Nat.zero_le _⟩
theorem act_ok (act : Act) (D G : List XD) (ha : ActOk act) (h1 : ∀ x ∈ D, XOk x) (h2 : ∀ x ∈ G, XOk x) : (∀ x ∈ actD act D G, XOk x) ∧ (∀ x ∈ actG act D G, XOk x) := by
  have e1 : ∀ x ∈ D.getLast?.toList, XOk x := fun x hx => h1 x (List.mem_of_getLast? (Option.mem_toList.mp hx))
  have e2 : ∀ x ∈ G.getLast?.toList, XOk x := fun x hx => h2 x (List.mem_of_getLast? (Option.mem_toList.mp hx))
  cases act with
  | undo => exact ⟨fun x hx => h1 x ((List.dropLast_sublist D).subset hx), fun x hx => (List.mem_append.mp hx).elim (h2 x) (e1 x)⟩
  | redo => exact ⟨fun x hx => (List.mem_append.mp hx).elim (h1 x) (e2 x), fun x hx => h2 x ((List.dropLast_sublist G).subset hx)⟩
  | bad xs => exact ⟨h1, h2⟩
  | did x => exact ⟨fun y hy => (List.mem_append.mp hy).elim (h1 y) fun z => by rw [List.mem_singleton.mp z]; exact ha, fun y hy => nomatch hy⟩
/-- a desk is made -/
theorem make_desk {C CD : Addr} {H : Hp} {Q : VK} {E : XK} (ms : List Addr) (hms : ∀ x ∈ ms, H x ≠ none) (k : ∀ (H' : Hp) (d dx st un : Addr), H d = none → H st = none → H un = none → d ≠ st → d ≠ un → st ≠ un → Same H H' → DeskAt C CD H' (d :: st :: un :: ms) d dx st un [] [] → Q (.ref d) H') : kMake CD (sp_Desk_init C CD) E Q [] H := by
  intro d dx nd ndx hne
  have s1 : Same H (upd H dx (.own d)) := same_new ndx
  have nd1 : upd H dx (.own d) d = none := by rw [upd_ne (Ne.symm hne)]; exact nd
  have s2 : Same H (upd (upd H dx (.own d)) d (.ins CD dx [])) := Same.via s1 (same_new nd1)
  refine ⟨d, dx, ms, rfl, upd_same, fun x hx z => ?_, fun H' st un n1 n2 f K1 => ⟨rfl, ?_⟩⟩
  · cases e : H x with
    | none => exact hms x hx e
    | some o =>
      rw [s2 _ _ e] at z
      cases z
  · refine k H' d dx st un nd (Wk.fresh_back s2 n1) (Wk.fresh_back s2 n2) K1.nds K1.ndu K1.ne (fun x o hx => f _ _ (s2 _ _ hx) fun z => ?_) K1
    rw [List.mem_singleton.mp z, nd] at hx
    cases hx
theorem fix_out {H : Hp} {ms : List Addr} {x : Addr} {o : HO} (h : fixH H ms x = some o) : x ∉ ms := fun z => by
  rw [fix_none z] at h
  cases h
theorem nz_of {A B : Hp} {x : Addr} (s : Same A B) (h : A x ≠ none) : B x ≠ none := fun z => by
  cases e : A x with
  | none => exact h e
  | some o =>
    rw [s _ _ e] at z
    cases z
end Cut
/-! texts that write no line -/
namespace Cut
open PySem PySem.Spec PyProof.Rows L2 Wk
/-- z is not the text of a line -/
def BadTx (z : Str) : Prop := ∀ (v : V) (ps : List (Int × V)), Wr v ps → Ris ps → Nrm v ps → z ≠ textOf v ps
/-! ### how a line's stretches lie -/
def SLt (q : Seg) : Prop := ∀ a b, q.1 = some a → q.2.1 = some b → a < b
def SFol (q q' : Seg) : Prop := ∃ a b, q.2.1 = some a ∧ q'.1 = some b ∧ a ≤ b
structure Sg (L : List Seg) : Prop where
  ok : ∀ q ∈ L, SegOk q
  lt : ∀ q ∈ L, SLt q
  pw : L.Pairwise SFol
  adj : ∀ (i : Nat) (q q' : Seg), L[i]? = some q → L[i + 1]? = some q' → q.2.1 = q'.1 → q.2.2 ≠ q'.2.2
theorem segs_start : ∀ {ps : List (Int × V)} {c : Int} {v : V}, Ris ps → (∀ p ∈ ps, c < p.1) → ∀ q ∈ (segsV (some c) v ps).filterMap told, ∃ b, q.1 = some b ∧ c ≤ b
  | [], c, v, _, _, q, hq => by
    obtain ⟨x, hx, e⟩ := List.mem_filterMap.mp hq
    rw [List.mem_singleton.mp hx] at e
    refine ⟨c, ?_, Int.le_refl _⟩
    unfold told at e
    cases v <;> first | (cases e; rfl) | cases e
  | (d, h) :: r, c, v, hr, hc, q, hq => by
    obtain ⟨h1, h2⟩ := List.pairwise_cons.mp hr
    have hcd : c < d := hc (d, h) List.mem_cons_self
    have ih := segs_start (ps := r) (c := d) (v := h) h2 (fun p hp => h1 p hp)
    obtain ⟨x, hx, e⟩ := List.mem_filterMap.mp hq
    have hx : x ∈ (some c, some d, v) :: segsV (some d) h r := hx
    rcases List.mem_cons.mp hx with rfl | hx
    · refine ⟨c, ?_, Int.le_refl _⟩
      unfold told at e
      cases v <;> first | (cases e; rfl) | cases e
    · obtain ⟨b, hb, hl⟩ := ih q (List.mem_filterMap.mpr ⟨x, hx, e⟩)
      exact ⟨b, hb, by omega⟩
theorem told_str {s e : Option Int} {v : V} {q : Seg} (h : told (s, e, v) = some q) : v = .str q.2.2 ∧ q.1 = s ∧ q.2.1 = e := by
  unfold told at h
  cases v <;> first | (cases h; exact ⟨rfl, rfl, rfl⟩) | cases h
theorem segs_first : ∀ {ps : List (Int × V)} {c : Int} {v : V} {q : Seg}, Ris ps → (∀ p ∈ ps, c < p.1) → ((segsV (some c) v ps).filterMap told)[0]? = some q → q.1 = some c → v = .str q.2.2
  | [], c, v, q, _, _, hq, hc => by
    have hq : ((told (some c, none, v)).toList ++ [])[0]? = some q := by
      have : (segsV (some c) v []).filterMap told = (told (some c, none, v)).toList ++ [] := by
        show [(some c, none, v)].filterMap told = _
        cases e : told (some c, none, v) <;> simp [List.filterMap_cons, e]
      rw [← this]; exact hq
    cases e : told (some c, none, v) with
    | none => rw [e] at hq; simp at hq
    | some q' =>
      rw [e] at hq
      cases Option.some.inj hq
      exact (told_str e).1
  | (d, h) :: r, c, v, q, hr, hcs, hq, hc => by
    obtain ⟨h1, h2⟩ := List.pairwise_cons.mp hr
    have hcd : c < d := hcs (d, h) List.mem_cons_self
    have hq : (((some c, some d, v) :: segsV (some d) h r).filterMap told)[0]? = some q := hq
    rw [List.filterMap_cons] at hq
    cases e : told (some c, some d, v) with
    | none =>
      rw [e] at hq
      obtain ⟨b, hb, hl⟩ := segs_start (ps := r) (c := d) (v := h) h2 (fun p hp => h1 p hp) q (List.mem_of_getElem? hq)
      rw [hc] at hb
      cases hb
      omega
    | some q' =>
      rw [e] at hq
      cases Option.some.inj hq
      exact (told_str e).1
theorem segs_sg : ∀ {ps : List (Int × V)} {s : Option Int} {v : V}, Ris ps → (∀ a, s = some a → ∀ p ∈ ps, a < p.1) → Nrm v ps → (∀ q ∈ (segsV s v ps).filterMap told, SLt q) ∧ ((segsV s v ps).filterMap told).Pairwise SFol ∧
    ∀ (i : Nat) (q q' : Seg), ((segsV s v ps).filterMap told)[i]? = some q → ((segsV s v ps).filterMap told)[i + 1]? = some q' → q.2.1 = q'.1 → q.2.2 ≠ q'.2.2
  | [], s, v, _, _, _ => by
    have key : (segsV s v []).filterMap told = (told (s, none, v)).toList := by
      show [(s, none, v)].filterMap told = _
      cases e : told (s, none, v) <;> simp [List.filterMap_cons, e]
    rw [key]
    cases e : told (s, none, v) with
    | none => exact ⟨fun q hq => (nomatch hq), List.Pairwise.nil, fun i q q' h => by simp at h⟩
    | some q' =>
      obtain ⟨_, _, e3⟩ := told_str e
      refine ⟨fun q hq a b _ hb => ?_, List.pairwise_singleton _ _, fun i q q' h1 h2 => ?_⟩
      · rw [List.mem_singleton.mp hq, e3] at hb
        cases hb
      · simp at h2
  | (c, h) :: r, s, v, hr, hs, hn => by
    obtain ⟨h1, h2⟩ := List.pairwise_cons.mp hr
    obtain ⟨i1, i2, i3⟩ := segs_sg (ps := r) (s := some c) (v := h) h2 (fun a ha p hp => by cases ha; exact h1 p hp) hn.2
    have st := segs_start (ps := r) (c := c) (v := h) h2 (fun p hp => h1 p hp)
    have key : (segsV s v ((c, h) :: r)).filterMap told = (told (s, some c, v)).toList ++ (segsV (some c) h r).filterMap told := by
      show ((s, some c, v) :: segsV (some c) h r).filterMap told = _
      rw [List.filterMap_cons]
      cases e : told (s, some c, v) <;> rfl
    rw [key]
    cases e : told (s, some c, v) with
    | none => exact ⟨i1, i2, i3⟩
    | some q0 =>
      obtain ⟨e1, e2, e3⟩ := told_str e
      refine ⟨fun q hq => ?_, List.pairwise_cons.mpr ⟨fun q hq => ?_, i2⟩, fun i q q' g1 g2 g3 => ?_⟩
      · rcases List.mem_cons.mp hq with rfl | hq
        · intro a b ha hb
          rw [e2] at ha
          rw [e3] at hb
          cases hb
          exact hs a ha (c, h) List.mem_cons_self
        · exact i1 q hq
      · obtain ⟨b, hb, hl⟩ := st q hq
        exact ⟨c, b, e3, hb, hl⟩
      · cases i with
        | zero =>
          cases Option.some.inj g1
          have g2 : ((segsV (some c) h r).filterMap told)[0]? = some q' := g2
          have hf := segs_first (ps := r) (c := c) (v := h) h2 (fun p hp => h1 p hp) g2 (by rw [← g3, e3])
          intro z
          refine hn.1 ?_
          rw [hf, e1, z]
        | succ i => exact i3 i q q' g1 g2 g3
theorem Wr.sg {v : V} {ps : List (Int × V)} (h : Wr v ps) (hr : Ris ps) (hn : Nrm v ps) : Sg (Cut.segs v ps) := by
  obtain ⟨a, b, c⟩ := segs_sg (s := none) hr (fun a ha => nomatch ha) hn
  exact ⟨h.segs, a, b, c⟩
/-! ### the pieces of a text are told by it -/
abbrev T (L : List Seg) : Str := Txt.join ", " (L.map pieceS)
theorem split_join_cs {P : List Str} (hP : P ≠ []) (hc : ∀ p ∈ P, 44 ∉ tl p) : Txt.split (Txt.join ", " P) ", " = P := TL.split_join (s := 44) (S := [32]) tl_cs (by decide +kernel) hP hc
theorem bad_of {P : List Str} (hP : P ≠ []) (hc : ∀ p ∈ P, 44 ∉ tl p) (hz : Txt.join ", " P ≠ "") (h : ∀ L, Sg L → P ≠ L.map pieceS) : BadTx (Txt.join ", " P) := fun v ps hw hr hn e => by
  have hs := hw.sg hr hn
  have hne : segs v ps ≠ [] := fun z => hz (e.trans (text_nil.mpr z))
  have e2 := congrArg (fun z => Txt.split z ", ") e
  rw [split_join_cs hP hc, split_text hne hs.ok] at e2
  exact h _ hs e2
theorem endS_inj {o o' : Option Int} (h : EndOk o) (h' : EndOk o') (e : endS o = endS o') : o = o' := by
  cases o with
  | none =>
    cases o' with
    | none => rfl
    | some j => exact absurd e.symm (of_decide_eq_false (int_ne_nil j))
  | some i =>
    cases o' with
    | none => exact absurd e (of_decide_eq_false (int_ne_nil i))
    | some j =>
      have h1 := int_back (i := i) h
      have h2 := int_back (i := j) h'
      have e : intS i = intS j := e
      rw [e, h2] at h1
      exact congrArg some (Option.some.inj h1).symm
theorem piece_ends {q : Seg} {x : Str} (h : SegOk q) (e : x = pieceS q) : Txt.split x " " = [endsS q.1 q.2.1, q.2.2] := by rw [e, split_piece h.2.2]
theorem piece_inj {q q' : Seg} (h : SegOk q) (h' : SegOk q') (e : pieceS q = pieceS q') : q = q' := by
  have e1 := piece_ends h' e
  rw [split_piece h.2.2] at e1
  obtain ⟨e2, e3⟩ := List.cons.inj e1
  have e3 := (List.cons.inj e3).1
  have e4 := congrArg (fun z => Txt.split z "..") e2
  rw [split_ends, split_ends] at e4
  obtain ⟨e5, e6⟩ := List.cons.inj e4
  have e6 := (List.cons.inj e6).1
  obtain ⟨a, b, c⟩ := q
  obtain ⟨a', b', c'⟩ := q'
  have r1 := endS_inj h.1 h'.1 e5
  have r2 := endS_inj h.2.1 h'.2.1 e6
  have r1 : a = a' := r1
  have r2 : b = b' := r2
  have e3 : c = c' := e3
  rw [r1, r2, e3]
theorem map_piece_inj : ∀ {L L' : List Seg}, (∀ q ∈ L, SegOk q) → (∀ q ∈ L', SegOk q) → L.map pieceS = L'.map pieceS → L = L'
  | [], [], _, _, _ => rfl
  | [], _ :: _, _, _, e => by cases e
  | _ :: _, [], _, _, e => by cases e
  | q :: r, q' :: r', h, h', e => by
    obtain ⟨e1, e2⟩ := List.cons.inj e
    rw [piece_inj (h q List.mem_cons_self) (h' q' List.mem_cons_self) e1, map_piece_inj (fun x hx => h x (List.mem_cons_of_mem _ hx)) (fun x hx => h' x (List.mem_cons_of_mem _ hx)) e2]
theorem no_comma {q : Seg} (h : SegOk q) : 44 ∉ tl (pieceS q) := fun hc => by
  rcases piece_sign h.2.2 hc with z | z | z | z | z <;> omega
/-- lists of stretches that are no line's -/
theorem bad_segs {L : List Seg} (hne : L ≠ []) (hok : ∀ q ∈ L, SegOk q) (h : ¬ Sg L) : BadTx (T L) :=
  bad_of (fun z => hne (List.map_eq_nil_iff.mp z)) (fun p hp => by
    obtain ⟨q, hq, rfl⟩ := List.mem_map.mp hp
    exact no_comma (hok q hq)) (fun z => hne (text_nil.mp z)) fun L' hL' e => h (by rw [map_piece_inj hok hL'.ok e]; exact hL')
theorem joinL_app (S : List Nat) : ∀ {P Q : List (List Nat)}, P ≠ [] → Q ≠ [] → TL.joinL S (P ++ Q) = TL.joinL S P ++ (S ++ TL.joinL S Q)
  | [], _, h, _ => absurd rfl h
  | [p], q :: r, _, _ => rfl
  | [p], [], _, h => absurd rfl h
  | p :: p' :: r, Q, _, hQ => by
    show p ++ (S ++ TL.joinL S (p' :: r ++ Q)) = p ++ (S ++ TL.joinL S (p' :: r)) ++ (S ++ TL.joinL S Q)
    rw [joinL_app S (P := p' :: r) (by simp) hQ]
    simp only [List.append_assoc]
theorem join_app {P Q : List Str} (hP : P ≠ []) (hQ : Q ≠ []) : Txt.join ", " (P ++ Q) = Txt.join ", " P ++ ", " ++ Txt.join ", " Q := by
  refine TL.ext_tl ?_
  rw [TL.join_eq, TL.tl_join, TL.tl_append, TL.tl_append, TL.join_eq, TL.tl_join, TL.join_eq, TL.tl_join, List.map_append, joinL_app _ (fun z => hP (List.map_eq_nil_iff.mp z)) (fun z => hQ (List.map_eq_nil_iff.mp z)), List.append_assoc]
theorem join_one (p : Str) : Txt.join ", " [p] = p := by
  refine TL.ext_tl ?_
  rw [TL.join_eq, TL.tl_join] <;> rfl
theorem not_sg_twice {L : List Seg} {x : Seg} (hx : SLt x) (h : ∃ A B, L = A ++ x :: B ∧ x ∈ B) : ¬ Sg L := fun hs => by
  obtain ⟨A, B, rfl, hB⟩ := h
  have := (List.pairwise_append.mp hs.pw).2.1
  obtain ⟨a, b, ha, hb, hl⟩ := (List.pairwise_cons.mp this).1 x hB
  have := hx b a hb ha
  omega
theorem bad7 {L : List Seg} (hs : Sg L) (hne : L ≠ []) : BadTx (T L ++ ", " ++ T L) := by
  have e : T L ++ ", " ++ T L = T (L ++ L) := by
    show _ = Txt.join ", " ((L ++ L).map pieceS)
    have hn : L.map pieceS ≠ [] := fun z => hne (List.map_eq_nil_iff.mp z)
    rw [List.map_append, join_app hn hn]
  rw [e]
  refine bad_segs (by simp [hne]) (fun q hq => (List.mem_append.mp hq).elim (hs.ok q) (hs.ok q)) ?_
  obtain ⟨x, r, rfl⟩ : ∃ x r, L = x :: r := by
    cases L with
    | nil => exact absurd rfl hne
    | cons x r => exact ⟨x, r, rfl⟩
  exact not_sg_twice (hs.lt x List.mem_cons_self) ⟨[], r ++ x :: r, rfl, by simp⟩
theorem bad21 {L : List Seg} (hs : Sg L) (hne : L ≠ []) : BadTx (Txt.join ", " ((L.map pieceS).reverse ++ (L.map pieceS).take 1)) := by
  obtain ⟨x, r, rfl⟩ : ∃ x r, L = x :: r := by
    cases L with
    | nil => exact absurd rfl hne
    | cons x r => exact ⟨x, r, rfl⟩
  have e : ((x :: r).map pieceS).reverse ++ ((x :: r).map pieceS).take 1 = (r.reverse ++ x :: [x]).map pieceS := by simp
  rw [e]
  refine bad_segs (by simp) (fun q hq => hs.ok q ?_) (not_sg_twice (hs.lt x List.mem_cons_self) ⟨r.reverse, [x], rfl, by simp⟩)
  simp only [List.mem_append, List.mem_reverse, List.mem_cons, List.not_mem_nil, or_false] at hq ⊢
  rcases hq with h | h | h
  · exact .inr h
  · exact .inl h
  · exact .inl h
theorem word_zz : Word "zz" := ⟨by decide, by decide, by decide⟩
theorem bad22 {L : List Seg} {x : Seg} (hs : Sg (L ++ [x])) : BadTx (T (L ++ [x]) ++ ", " ++ endsS x.1 x.2.1 ++ " zz") := by
  have hx : x ∈ L ++ [x] := by simp
  have e : T (L ++ [x]) ++ ", " ++ endsS x.1 x.2.1 ++ " zz" = T ((L ++ [x]) ++ [((x.1, x.2.1, ("zz" : Str)) : Seg)]) := by
    show _ = Txt.join ", " (((L ++ [x]) ++ [((x.1, x.2.1, ("zz" : Str)) : Seg)]).map pieceS)
    rw [List.map_append (l₁ := L ++ [x]), join_app (by simp) (by simp)]
    rw [show Txt.join ", " (List.map pieceS [((x.1, x.2.1, ("zz" : Str)) : Seg)]) = pieceS (x.1, x.2.1, "zz") from join_one _]
    have key : ∀ J E : Str, J ++ ", " ++ E ++ " zz" = J ++ ", " ++ (E ++ " " ++ "zz") := fun J E => TL.ext_tl (by
      simp only [TL.tl_append, List.append_assoc]
      rw [show TL.tl (" zz" : Str) = TL.tl (" " : Str) ++ TL.tl ("zz" : Str) from by decide +kernel])
    exact key _ _
  rw [e]
  refine bad_segs (by simp) (fun q hq => ?_) fun h => ?_
  · rcases List.mem_append.mp hq with hq | hq
    · exact hs.ok q hq
    · rw [List.mem_singleton.mp hq]
      exact ⟨(hs.ok x hx).1, (hs.ok x hx).2.1, word_zz⟩
  · have := h.pw
    rw [List.append_assoc] at this
    have := (List.pairwise_append.mp this).2.1
    obtain ⟨a, b, ha, hb, hl⟩ := (List.pairwise_cons.mp this).1 _ List.mem_cons_self
    have := hs.lt x hx b a hb ha
    omega
/-! ### signs -/
theorem joinL_mem {S : List Nat} {c : Nat} : ∀ {P : List (List Nat)}, c ∈ TL.joinL S P → c ∈ S ∨ ∃ p ∈ P, c ∈ p
  | [], h => nomatch h
  | [p], h => .inr ⟨p, List.mem_cons_self, h⟩
  | p :: q :: r, h => by
    have h : c ∈ p ++ (S ++ TL.joinL S (q :: r)) := h
    rcases List.mem_append.mp h with h | h
    · exact .inr ⟨p, List.mem_cons_self, h⟩
    · rcases List.mem_append.mp h with h | h
      · exact .inl h
      · rcases joinL_mem (P := q :: r) h with z | ⟨x, hx, z⟩
        · exact .inl z
        · exact .inr ⟨x, List.mem_cons_of_mem _ hx, z⟩
theorem tl_T (L : List Seg) : tl (T L) = TL.joinL [44, 32] ((L.map pieceS).map tl) := by
  show TL.tl (Txt.join ", " (L.map pieceS)) = _
  rw [TL.join_eq, TL.tl_join, show TL.tl (", " : Str) = [44, 32] from tl_cs]
theorem text_sign {L : List Seg} (hok : ∀ q ∈ L, SegOk q) {c : Nat} (h : c ∈ tl (T L)) : c = 45 ∨ c = 46 ∨ (48 ≤ c ∧ c ≤ 57) ∨ c = 32 ∨ (97 ≤ c ∧ c ≤ 122) ∨ c = 44 := by
  rw [tl_T] at h
  rcases joinL_mem h with z | ⟨p, hp, z⟩
  · simp only [List.mem_cons, List.not_mem_nil, or_false] at z
    rcases z with z | z
    · exact .inr (.inr (.inr (.inr (.inr z))))
    · exact .inr (.inr (.inr (.inl z)))
  · obtain ⟨x, hx, rfl⟩ := List.mem_map.mp hp
    obtain ⟨q, hq, rfl⟩ := List.mem_map.mp hx
    rcases piece_sign (hok q hq).2.2 z with y | y | y | y | y
    · exact .inl y
    · exact .inr (.inl y)
    · exact .inr (.inr (.inl y))
    · exact .inr (.inr (.inr (.inl y)))
    · exact .inr (.inr (.inr (.inr (.inl y))))
theorem bad_sign {z : Str} {c : Nat} (hc : c ∈ tl z) (h : ¬ (c = 45 ∨ c = 46 ∨ (48 ≤ c ∧ c ≤ 57) ∨ c = 32 ∨ (97 ≤ c ∧ c ≤ 122) ∨ c = 44)) : BadTx z := fun v ps hw hr hn e => by
  rw [e] at hc
  exact h (text_sign hw.segs hc)
theorem word_last {w : Str} (h : Word w) : ∃ Y d, tl w = Y ++ [d] ∧ 97 ≤ d ∧ d ≤ 122 := by
  have hl : tl w ≠ [] := fun z => by
    have := h.1
    rw [len_tl, show TL.tl w = [] from z] at this
    simp at this
  refine ⟨(tl w).dropLast, (tl w).getLast hl, (List.dropLast_concat_getLast hl).symm, h.2.2 _ (List.getLast_mem hl)⟩
theorem piece_last {q : Seg} (h : SegOk q) : ∃ Y d, tl (pieceS q) = Y ++ [d] ∧ 97 ≤ d ∧ d ≤ 122 := by
  obtain ⟨Y, d, e, hd⟩ := word_last h.2.2
  exact ⟨_, d, by rw [tl_piece, e, ← List.append_assoc], hd⟩
theorem last_eq {α : Type} {X Y : List α} {c d : α} (h : X ++ [c] = Y ++ [d]) : c = d := by
  have := congrArg List.getLast? h
  simpa using this
theorem joinL_end (S : List Nat) : ∀ (P : List (List Nat)) (p : List Nat), ∃ X, TL.joinL S (P ++ [p]) = X ++ p
  | [], p => ⟨[], rfl⟩
  | [a], p => ⟨a ++ S, by rw [List.append_assoc] <;> rfl⟩
  | a :: b :: P, p => by
    obtain ⟨X, e⟩ := joinL_end S (b :: P) p
    refine ⟨a ++ (S ++ X), ?_⟩
    show a ++ (S ++ TL.joinL S (b :: P ++ [p])) = _
    rw [e]
    simp only [List.append_assoc]
theorem bad_last {z : Str} {Y : List Nat} {c : Nat} (h : tl z = Y ++ [c]) (hc : c < 97 ∨ 122 < c) : BadTx z := fun v ps hw hr hn e => by
  have hok := hw.segs
  rcases List.eq_nil_or_concat (segs v ps) with hs | ⟨L, q, hs⟩
  · have e := e.trans (text_nil.mpr hs)
    rw [e, tl_nil] at h
    simp at h
  · rw [List.concat_eq_append] at hs
    obtain ⟨W, d, e1, hd⟩ := piece_last (hok q (by rw [hs]; simp))
    obtain ⟨X, e2⟩ := joinL_end [44, 32] ((L.map pieceS).map tl) (tl (pieceS q))
    have e3 : tl z = X ++ tl (pieceS q) := by
      rw [e]
      show tl (T (segs v ps)) = _
      rw [tl_T, hs, List.map_append, List.map_append]
      exact e2
    rw [h, e1, ← List.append_assoc] at e3
    have := last_eq e3
    omega
theorem ends_head {s e : Option Int} : ∃ c Y, tl (endsS s e) = c :: Y ∧ (c = 45 ∨ c = 46 ∨ (48 ≤ c ∧ c ≤ 57)) := by
  cases h : tl (endsS s e) with
  | nil =>
    rw [tl_ends] at h
    simp at h
  | cons c Y => exact ⟨c, Y, rfl, ends_sign (by rw [h]; exact List.mem_cons_self)⟩
theorem piece_head {q : Seg} : ∃ c Y, tl (pieceS q) = c :: Y ∧ (c = 45 ∨ c = 46 ∨ (48 ≤ c ∧ c ≤ 57)) := by
  obtain ⟨c, Y, e, h⟩ := ends_head (s := q.1) (e := q.2.1)
  exact ⟨c, Y ++ [32] ++ tl q.2.2, by rw [tl_piece, e] <;> rfl, h⟩
theorem joinL_start (S : List Nat) (p : List Nat) (P : List (List Nat)) : ∃ X, TL.joinL S (p :: P) = p ++ X := by
  cases P with
  | nil => exact ⟨[], (List.append_nil p).symm⟩
  | cons q r => exact ⟨_, rfl⟩
theorem bad_head {z : Str} {Y : List Nat} {c : Nat} (h : tl z = c :: Y) (hc : ¬ (c = 45 ∨ c = 46 ∨ (48 ≤ c ∧ c ≤ 57))) : BadTx z := fun v ps hw hr hn e => by
  cases hs : segs v ps with
  | nil =>
    have e := e.trans (text_nil.mpr hs)
    rw [e, tl_nil] at h
    cases h
  | cons q L =>
    obtain ⟨d, W, e1, hd⟩ := piece_head (q := q)
    obtain ⟨X, e2⟩ := joinL_start [44, 32] (tl (pieceS q)) ((L.map pieceS).map tl)
    have e3 : tl z = tl (pieceS q) ++ X := by
      rw [e]
      show tl (T (segs v ps)) = _
      rw [tl_T, hs]
      exact e2
    rw [h, e1] at e3
    have := (List.cons.inj e3).1
    rw [this] at hc
    exact hc hd
theorem bad1 (x : Str) : BadTx (x ++ ",") := bad_last (Y := tl x) (c := 44) (by show TL.tl (x ++ ",") = _; rw [TL.tl_append] <;> rfl) (by omega)
theorem bad2 (x : Str) : BadTx (x ++ ", ") := bad_last (Y := tl x ++ [44]) (c := 32) (by show TL.tl (x ++ ", ") = _; rw [TL.tl_append, show TL.tl (", " : Str) = [44] ++ [32] from by decide +kernel, ← List.append_assoc]) (by omega)
theorem bad4 (x : Str) : BadTx (x ++ " ") := bad_last (Y := tl x) (c := 32) (by show TL.tl (x ++ " ") = _; rw [TL.tl_append] <;> rfl) (by omega)
theorem bad8 (x : Str) : BadTx (x ++ "\n") := bad_last (Y := tl x) (c := 10) (by show TL.tl (x ++ "\n") = _; rw [TL.tl_append] <;> rfl) (by omega)
theorem bad3 (x : Str) : BadTx (" " ++ x) := bad_head (Y := tl x) (c := 32) (by show TL.tl (" " ++ x) = _; rw [TL.tl_append] <;> rfl) (by omega)
theorem bad19 (x y : Str) : BadTx (x ++ "#" ++ y) := bad_sign (c := 35) (by show 35 ∈ TL.tl (x ++ "#" ++ y); rw [TL.tl_append, TL.tl_append, show TL.tl ("#" : Str) = [35] from by decide +kernel]; simp) (by omega)
/-! ### one piece spoiled -/
def BadPc (p : Str) : Prop := p ≠ "" ∧ 44 ∉ tl p ∧ ∀ q, SegOk q → SLt q → p ≠ pieceS q
theorem piece_ne (q : Seg) : pieceS q ≠ "" := fun z => by
  obtain ⟨c, Y, e, _⟩ := piece_head (q := q)
  rw [z, tl_nil] at e
  cases e
theorem join_ne {P : List Str} (hP : P ≠ []) (h : ∀ p ∈ P, p ≠ "") : Txt.join ", " P ≠ "" := fun z => by
  cases P with
  | nil => exact hP rfl
  | cons p r =>
    obtain ⟨X, e⟩ := joinL_start (tl (", " : Str)) (tl p) (r.map tl)
    have e2 : tl (Txt.join ", " (p :: r)) = tl p ++ X := by
      show TL.tl _ = _
      rw [TL.join_eq, TL.tl_join]
      exact e
    rw [z, tl_nil] at e2
    exact h p List.mem_cons_self (TL.ext_tl (by rw [show TL.tl p = [] from (List.append_eq_nil_iff.mp e2.symm).1]; exact tl_nil.symm))
theorem bad_set {L : List Seg} {j : Nat} {p : Str} (hs : Sg L) (hj : j < L.length) (hp : BadPc p) : BadTx (Txt.join ", " ((L.map pieceS).set j p)) := by
  have hm : ∀ x ∈ (L.map pieceS).set j p, x = p ∨ ∃ q ∈ L, x = pieceS q := fun x hx => by
    rcases List.mem_or_eq_of_mem_set hx with z | z
    · obtain ⟨q, hq, e⟩ := List.mem_map.mp z
      exact .inr ⟨q, hq, e.symm⟩
    · exact .inl z
  have hne : (L.map pieceS).set j p ≠ [] := fun z => by
    have := congrArg List.length z
    rw [List.length_set, List.length_map] at this
    simp at this
    rw [this] at hj
    simp at hj
  refine bad_of hne (fun x hx => ?_) (join_ne hne fun x hx => ?_) fun L' hL' e => ?_
  · rcases hm x hx with rfl | ⟨q, hq, rfl⟩
    · exact hp.2.1
    · exact no_comma (hs.ok q hq)
  · rcases hm x hx with rfl | ⟨q, hq, rfl⟩
    · exact hp.1
    · exact piece_ne q
  · have : p ∈ L'.map pieceS := by
      rw [← e]
      exact List.mem_iff_getElem?.mpr ⟨j, by rw [List.getElem?_set_self (by rw [List.length_map]; exact hj)]⟩
    obtain ⟨q, hq, e2⟩ := List.mem_map.mp this
    exact hp.2.2 q (hL'.ok q hq) (hL'.lt q hq) e2.symm
theorem joinL_cons {S a : List Nat} {L : List (List Nat)} (h : L ≠ []) : TL.joinL S (a :: L) = a ++ (S ++ TL.joinL S L) := by
  cases L with
  | nil => exact absurd rfl h
  | cons b r => rfl
theorem joinL_two {S x y : List Nat} : ∀ {A B : List (List Nat)}, TL.joinL S (A ++ (x ++ S ++ y) :: B) = TL.joinL S (A ++ x :: y :: B)
  | [], [] => by
    show x ++ S ++ y = x ++ (S ++ y)
    rw [List.append_assoc]
  | [], b :: r => by
    show (x ++ S ++ y) ++ (S ++ TL.joinL S (b :: r)) = x ++ (S ++ (y ++ (S ++ TL.joinL S (b :: r))))
    simp only [List.append_assoc]
  | a :: A, B => by
    show TL.joinL S (a :: (A ++ (x ++ S ++ y) :: B)) = TL.joinL S (a :: (A ++ x :: y :: B))
    rw [joinL_cons (by simp), joinL_cons (by simp), joinL_two]
theorem bad_two {L : List Seg} {j : Nat} {s e : Option Int} {h : Int} {w : Str} (hs : Sg L) (hj : j < L.length) (h1 : SegOk (s, some h, w)) (h2 : SegOk (some h, e, w)) : BadTx (Txt.join ", " ((L.map pieceS).set j (pieceS (s, some h, w) ++ ", " ++ pieceS (some h, e, w)))) := by
  have e1 : Txt.join ", " ((L.map pieceS).set j (pieceS (s, some h, w) ++ ", " ++ pieceS (some h, e, w))) = T (L.take j ++ (s, some h, w) :: (some h, e, w) :: L.drop (j + 1)) := by
    refine TL.ext_tl ?_
    rw [List.set_eq_take_append_cons_drop, if_pos (by rw [List.length_map]; exact hj), TL.join_eq, TL.tl_join, List.map_append, List.map_cons, TL.tl_append, TL.tl_append, joinL_two]
    rw [show TL.tl (T (L.take j ++ (s, some h, w) :: (some h, e, w) :: L.drop (j + 1))) = _ from tl_T _, List.map_append, List.map_append, List.map_cons, List.map_cons, List.map_cons, List.map_cons, show TL.tl (", " : Str) = [44, 32] from tl_cs]
    simp only [List.map_take, List.map_drop]
  rw [e1]
  refine bad_segs (by simp) (fun q hq => ?_) fun hb => ?_
  · rcases List.mem_append.mp hq with z | z
    · exact hs.ok q (List.mem_of_mem_take z)
    · rcases List.mem_cons.mp z with rfl | z
      · exact h1
      · rcases List.mem_cons.mp z with rfl | z
        · exact h2
        · exact hs.ok q (List.mem_of_mem_drop z)
  · have hl : (L.take j).length = j := by rw [List.length_take]; omega
    refine hb.adj j (s, some h, w) (some h, e, w) ?_ ?_ rfl rfl
    · rw [List.getElem?_append_right (by omega), hl, Nat.sub_self] <;> rfl
    · rw [List.getElem?_append_right (by omega), hl, show j + 1 - j = 1 by omega] <;> rfl
/-! ### the ways to spoil a piece -/
theorem tl3 (a b c : Str) : tl (a ++ b ++ c) = tl a ++ tl b ++ tl c := by
  show TL.tl (a ++ b ++ c) = _
  rw [TL.tl_append, TL.tl_append]
theorem tl2 (a b : Str) : tl (a ++ b) = tl a ++ tl b := TL.tl_append a b
theorem ne_of_tl {z : Str} (h : tl z ≠ []) : z ≠ "" := fun e => h (by rw [e]; exact tl_nil)
/-- two words, told apart by a blank -/
theorem split2 {a b : Str} (ha : 32 ∉ tl a) (hb : 32 ∉ tl b) : Txt.split (a ++ " " ++ b) " " = [a, b] := by
  rw [← join2]
  refine TL.split_join (s := 32) (S := []) tl_sp (by decide +kernel) (by simp) fun p hp => ?_
  rcases List.mem_cons.mp hp with z | z
  · rw [z]; exact ha
  · rw [List.mem_singleton.mp z]; exact hb
theorem splitD {a b : Str} (ha : 46 ∉ tl a) (hb : 46 ∉ tl b) : Txt.split (a ++ ".." ++ b) ".." = [a, b] := by
  rw [← join2]
  refine TL.split_join (s := 46) (S := [46]) tl_dd (by decide +kernel) (by simp) fun p hp => ?_
  rcases List.mem_cons.mp hp with z | z
  · rw [z]; exact ha
  · rw [List.mem_singleton.mp z]; exact hb
/-- a piece of two ends and a word tells them -/
theorem two_words {a b w : Str} {q : Seg} (hq : SegOk q) (a2 : 32 ∉ tl a) (b2 : 32 ∉ tl b) (w2 : 32 ∉ tl w) (a4 : 46 ∉ tl a) (b4 : 46 ∉ tl b) (e : a ++ ".." ++ b ++ " " ++ w = pieceS q) : a = endS q.1 ∧ b = endS q.2.1 ∧ w = q.2.2 := by
  have e1 := piece_ends hq e.symm.symm
  rw [split2 (by
    rw [tl3, show tl (".." : Str) = _ from tl_dd]
    intro h
    simp only [List.mem_append, List.mem_cons, List.not_mem_nil, or_false] at h
    rcases h with (h | h | h) | h
    · exact a2 h
    · cases h
    · cases h
    · exact b2 h) w2] at e1
  obtain ⟨e2, e3⟩ := List.cons.inj e1
  have e4 := congrArg (fun z => Txt.split z "..") e2
  rw [splitD a4 b4, split_ends] at e4
  exact ⟨(List.cons.inj e4).1, (List.cons.inj (List.cons.inj e4).2).1, (List.cons.inj e3).1⟩
theorem word_sign {w : Str} (h : Word w) {c : Nat} (hc : c < 97 ∨ 122 < c) : c ∉ tl w := fun hm => by
  have := h.2.2 c hm
  omega
theorem end_no {o : Option Int} {c : Nat} (hc : ¬ (c = 45 ∨ (48 ≤ c ∧ c ≤ 57))) : c ∉ tl (endS o) := fun hm => hc (end_sign hm)
theorem nought_no {i : Int} {o : Option Int} (h : "0" ++ intS i = endS o) : False := by
  have h := congrArg tl h
  rw [tl2, show tl ("0" : Str) = [48] from by decide +kernel] at h
  cases o with
  | none =>
    rw [show tl (endS none) = [] from tl_nil] at h
    cases h
  | some j =>
    rw [show tl (endS (some j)) = _ from tl_int j] at h
    have hi : tl (intS i) ≠ [] := fun z => by
      rw [tl_int] at z
      exact TL.numL_ne _ (List.append_eq_nil_iff.mp z).2
    by_cases hj : j < 0
    · rw [if_pos hj] at h
      have := (List.cons.inj h).1
      omega
    · rw [if_neg hj, List.nil_append] at h
      by_cases h0 : j.natAbs = 0
      · rw [h0, TL.numL_lt (by omega)] at h
        exact hi (List.cons.inj h).2
      · exact numL_head j.natAbs (by omega) 48 (by rw [← h] <;> rfl) rfl
theorem tl_z : tl ("0" : Str) = [48] := by decide +kernel
theorem bad9a {q : Seg} {b : Int} (h : SegOk q) (hb : q.2.1 = some b) : BadPc (endS q.1 ++ "..0" ++ endS q.2.1 ++ " " ++ q.2.2) := by
  have e0 : endS q.1 ++ "..0" ++ endS q.2.1 ++ " " ++ q.2.2 = endS q.1 ++ ".." ++ ("0" ++ endS q.2.1) ++ " " ++ q.2.2 := TL.ext_tl (by
    simp only [TL.tl_append, List.append_assoc]
    rw [show TL.tl ("..0" : Str) = TL.tl (".." : Str) ++ TL.tl ("0" : Str) from by decide +kernel, List.append_assoc])
  rw [e0]
  have nz : ∀ c, ¬ (c = 45 ∨ (48 ≤ c ∧ c ≤ 57)) → c ∉ tl ("0" ++ endS q.2.1) := fun c hc hm => by
    rw [tl2, tl_z] at hm
    rcases List.mem_append.mp hm with z | z
    · have := List.mem_singleton.mp z
      omega
    · exact end_no hc z
  refine ⟨ne_of_tl (by rw [tl3, tl3, tl_dd, tl_sp]; simp), fun hm => ?_, fun q' hq' _ e => ?_⟩
  · rw [tl3, tl3, tl_dd, tl_sp] at hm
    simp only [List.mem_append, List.mem_cons, List.not_mem_nil, or_false] at hm
    rcases hm with (((hm | hm | hm) | hm) | hm) | hm
    · exact end_no (by omega) hm
    · cases hm
    · cases hm
    · exact nz 44 (by omega) hm
    · cases hm
    · exact word_sign h.2.2 (by omega) hm
  · obtain ⟨_, e2, _⟩ := two_words hq' (end_no (by omega)) (nz 32 (by omega)) (word_sign h.2.2 (by omega)) (end_no (by omega)) (nz 46 (by omega)) e
    rw [hb] at e2
    exact nought_no e2
theorem bad9b {q : Seg} {a : Int} (h : SegOk q) (ha : q.1 = some a) : BadPc ("0" ++ pieceS q) := by
  have e0 : "0" ++ pieceS q = ("0" ++ endS q.1) ++ ".." ++ endS q.2.1 ++ " " ++ q.2.2 := TL.ext_tl (by simp only [pieceS, endsS, TL.tl_append, List.append_assoc])
  rw [e0]
  have nz : ∀ c, ¬ (c = 45 ∨ (48 ≤ c ∧ c ≤ 57)) → c ∉ tl ("0" ++ endS q.1) := fun c hc hm => by
    rw [tl2, tl_z] at hm
    rcases List.mem_append.mp hm with z | z
    · have := List.mem_singleton.mp z
      omega
    · exact end_no hc z
  refine ⟨ne_of_tl (by rw [tl3, tl3, tl_dd, tl_sp]; simp), fun hm => ?_, fun q' hq' _ e => ?_⟩
  · rw [tl3, tl3, tl_dd, tl_sp] at hm
    simp only [List.mem_append, List.mem_cons, List.not_mem_nil, or_false] at hm
    rcases hm with (((hm | hm | hm) | hm) | hm) | hm
    · exact nz 44 (by omega) hm
    · cases hm
    · cases hm
    · exact end_no (by omega) hm
    · cases hm
    · exact word_sign h.2.2 (by omega) hm
  · obtain ⟨e2, _, _⟩ := two_words hq' (nz 32 (by omega)) (end_no (by omega)) (word_sign h.2.2 (by omega)) (nz 46 (by omega)) (end_no (by omega)) e
    rw [ha] at e2
    exact nought_no e2
theorem bad10a {q : Seg} {a b : Int} (h : SegOk q) (hl : SLt q) (ha : q.1 = some a) (hb : q.2.1 = some b) : BadPc (endS q.2.1 ++ ".." ++ endS q.1 ++ " " ++ q.2.2) := by
  have e0 : endS q.2.1 ++ ".." ++ endS q.1 ++ " " ++ q.2.2 = pieceS (q.2.1, q.1, q.2.2) := rfl
  have ok' : SegOk (q.2.1, q.1, q.2.2) := ⟨h.2.1, h.1, h.2.2⟩
  rw [e0]
  refine ⟨piece_ne _, no_comma ok', fun q' hq' hl' e => ?_⟩
  have e2 := piece_inj ok' hq' e
  have h1 := hl' b a (by rw [← e2]; exact hb) (by rw [← e2]; exact ha)
  have h2 := hl a b ha hb
  omega
theorem sign_pc {p : Str} (hp : p ≠ "") (hc : 44 ∉ tl p) {c : Nat} (hm : c ∈ tl p) (h : ¬ (c = 45 ∨ c = 46 ∨ (48 ≤ c ∧ c ≤ 57) ∨ c = 32 ∨ (97 ≤ c ∧ c ≤ 122))) : BadPc p := ⟨hp, hc, fun q hq _ e => h (piece_sign hq.2.2 (by rw [← e]; exact hm))⟩
theorem last_pc {p : Str} (hc : 44 ∉ tl p) {Y : List Nat} {c : Nat} (e : tl p = Y ++ [c]) (h : c < 97 ∨ 122 < c) : BadPc p := ⟨ne_of_tl (by rw [e]; simp), hc, fun q hq _ e2 => by
  obtain ⟨W, d, e3, hd⟩ := piece_last hq
  rw [← e2, e] at e3
  have := last_eq e3
  omega⟩
theorem bad10b {q : Seg} (h : SegOk q) : BadPc (q.2.2 ++ " " ++ endsS q.1 q.2.1) := by
  obtain ⟨c, Y, e, hc⟩ : ∃ c Y, tl q.2.2 = c :: Y ∧ 97 ≤ c ∧ c ≤ 122 := by
    cases e : tl q.2.2 with
    | nil =>
      have := h.2.2.1
      rw [len_tl, show TL.tl q.2.2 = [] from e] at this
      simp at this
    | cons c Y => exact ⟨c, Y, rfl, h.2.2.2.2 c (by rw [show q.2.2.cps.toList = c :: Y from e]; exact List.mem_cons_self)⟩
  have et : tl (q.2.2 ++ " " ++ endsS q.1 q.2.1) = c :: (Y ++ [32] ++ tl (endsS q.1 q.2.1)) := by rw [tl3, e, tl_sp] <;> rfl
  refine ⟨ne_of_tl (by rw [et]; simp), fun hm => ?_, fun q' hq' _ e2 => ?_⟩
  · rw [tl3, tl_sp] at hm
    simp only [List.mem_append, List.mem_cons, List.not_mem_nil, or_false] at hm
    rcases hm with (hm | hm) | hm
    · exact word_sign h.2.2 (by omega) hm
    · cases hm
    · rcases ends_sign hm with z | z | z <;> omega
  · obtain ⟨d, W, e3, hd⟩ := piece_head (q := q')
    rw [← e2, et] at e3
    have := (List.cons.inj e3).1
    omega
theorem count_piece {q : Seg} (h : SegOk q) : (tl (pieceS q)).count 32 = 1 ∧ (tl (pieceS q)).count 46 = 2 := by
  have z : ∀ {l : List Nat} {c : Nat}, c ∉ l → l.count c = 0 := fun h => List.count_eq_zero.mpr h
  rw [tl_piece, tl_ends]
  simp only [List.count_append]
  rw [z (c := 32) (end_no (o := q.1) (by omega)), z (c := 32) (end_no (o := q.2.1) (by omega)), z (c := 32) (word_sign h.2.2 (by omega)), z (c := 46) (end_no (o := q.1) (by omega)), z (c := 46) (end_no (o := q.2.1) (by omega)), z (c := 46) (word_sign h.2.2 (by omega))]
  exact ⟨by decide, by decide⟩
theorem count_pc {p : Str} (hp : p ≠ "") (hc : 44 ∉ tl p) (h : (tl p).count 32 ≠ 1 ∨ (tl p).count 46 ≠ 2) : BadPc p := ⟨hp, hc, fun q hq _ e => by
  obtain ⟨c1, c2⟩ := count_piece hq
  rw [← e] at c1 c2
  rcases h with h | h
  · exact h c1
  · exact h c2⟩
theorem ends_no_comma (s e : Option Int) : 44 ∉ tl (endsS s e) := fun hm => by rcases ends_sign hm with z | z | z <;> omega
theorem bad11 {q : Seg} (h : SegOk q) : BadPc (endsS q.1 q.2.1 ++ "  " ++ q.2.2) := by
  have t2 : tl ("  " : Str) = [32, 32] := by decide +kernel
  refine count_pc (ne_of_tl (by rw [tl3, t2]; simp)) (fun hm => ?_) (.inl ?_)
  · rw [tl3, t2] at hm
    simp only [List.mem_append, List.mem_cons, List.not_mem_nil, or_false] at hm
    rcases hm with (hm | hm | hm) | hm
    · exact ends_no_comma _ _ hm
    · cases hm
    · cases hm
    · exact word_sign h.2.2 (by omega) hm
  · rw [tl3, t2]
    simp only [List.count_append]
    rw [show [32, 32].count 32 = 2 from by decide]
    omega
theorem bad12 {q : Seg} (h : SegOk q) : BadPc (endsS q.1 q.2.1) := by
  refine count_pc (ne_of_tl (by rw [tl_ends]; simp)) (ends_no_comma _ _) (.inl ?_)
  rw [List.count_eq_zero.mpr fun hm => by rcases ends_sign hm with z | z | z <;> omega]
  decide
theorem bad14 {q : Seg} (h : SegOk q) : BadPc (endsS q.1 q.2.1 ++ ".. " ++ q.2.2) := by
  have t2 : tl (".. " : Str) = [46, 46, 32] := by decide +kernel
  refine count_pc (ne_of_tl (by rw [tl3, t2]; simp)) (fun hm => ?_) (.inr ?_)
  · rw [tl3, t2] at hm
    simp only [List.mem_append, List.mem_cons, List.not_mem_nil, or_false] at hm
    rcases hm with (hm | hm | hm | hm) | hm
    · exact ends_no_comma _ _ hm
    · cases hm
    · cases hm
    · cases hm
    · exact word_sign h.2.2 (by omega) hm
  · rw [tl3, t2, tl_ends]
    simp only [List.count_append]
    rw [show [46, 46, 32].count 46 = 2 from by decide, show [46, 46].count 46 = 2 from by decide]
    omega
theorem bad13a {q : Seg} {x : Str} {c : Nat} (h : SegOk q) (e : tl x = [c]) (hc : c < 97 ∨ 122 < c) (h4 : c ≠ 44) : BadPc (pieceS q ++ x) := by
  refine last_pc (Y := tl (pieceS q)) (c := c) (fun hm => ?_) (by rw [tl2, e]) hc
  rw [tl2, e] at hm
  rcases List.mem_append.mp hm with z | z
  · exact no_comma h z
  · exact h4 (List.mem_singleton.mp z).symm
theorem bad13b {q : Seg} {x : Str} (h : SegOk q) (hx : 13 ≤ x.length) (hl : ∀ c ∈ tl x, 97 ≤ c ∧ c ≤ 122) : BadPc (pieceS q ++ x) := by
  have e0 : pieceS q ++ x = endS q.1 ++ ".." ++ endS q.2.1 ++ " " ++ (q.2.2 ++ x) := TL.ext_tl (by simp only [pieceS, endsS, TL.tl_append, List.append_assoc])
  have hw : ∀ c, c < 97 ∨ 122 < c → c ∉ tl (q.2.2 ++ x) := fun c hc hm => by
    rw [tl2] at hm
    rcases List.mem_append.mp hm with z | z
    · exact word_sign h.2.2 hc z
    · have := hl c z
      omega
  refine ⟨ne_of_tl (by rw [e0, tl3, tl3, tl_dd, tl_sp]; simp), fun hm => ?_, fun q' hq' _ e => ?_⟩
  · rw [tl2] at hm
    rcases List.mem_append.mp hm with z | z
    · exact no_comma h z
    · have := hl 44 z
      omega
  · rw [e0] at e
    obtain ⟨_, _, e3⟩ := two_words hq' (end_no (by omega)) (end_no (by omega)) (hw 32 (by omega)) (end_no (by omega)) (end_no (by omega)) e
    have h1 := hq'.2.2.2.1
    rw [← e3, len_app] at h1
    omega
theorem bad15 : BadPc "+1..2 a" := sign_pc (by decide +kernel) (by decide +kernel) (c := 43) (by decide +kernel) (by omega)
theorem bad17 : BadPc "1_0..20 a" := sign_pc (by decide +kernel) (by decide +kernel) (c := 95) (by decide +kernel) (by omega)
theorem word_a : Word "a" := ⟨by decide, by decide, by decide⟩
theorem bad18 : BadPc "5..5 a" := by
  have e0 : ("5..5 a" : Str) = pieceS (some 5, some 5, "a") := by decide +kernel
  have ok' : SegOk (some 5, some 5, "a") := ⟨by show (5 : Int).natAbs < Far; decide, by show (5 : Int).natAbs < Far; decide, word_a⟩
  rw [e0]
  refine ⟨piece_ne _, no_comma ok', fun q' hq' hl' e => ?_⟩
  have e2 := piece_inj ok' hq' e
  have h1 := hl' 5 5 (by rw [← e2]) (by rw [← e2])
  omega
theorem bad16 : BadPc "-0..2 a" := by
  have e0 : ("-0..2 a" : Str) = ("-0" : Str) ++ ".." ++ "2" ++ " " ++ "a" := by decide +kernel
  refine ⟨by decide +kernel, by decide +kernel, fun q' hq' _ e => ?_⟩
  rw [e0] at e
  obtain ⟨e1, _, _⟩ := two_words hq' (by decide +kernel) (by decide +kernel) (by decide +kernel) (by decide +kernel) (by decide +kernel) e
  have h := congrArg tl e1
  rw [show tl ("-0" : Str) = [45, 48] from by decide +kernel] at h
  cases ho : q'.1 with
  | none =>
    rw [ho, show tl (endS none) = [] from tl_nil] at h
    cases h
  | some i =>
    rw [ho, show tl (endS (some i)) = _ from tl_int i] at h
    by_cases hi : i < 0
    · rw [if_pos hi] at h
      have h2 := (List.cons.inj h).2
      exact numL_head i.natAbs (by omega) 48 (by rw [show TL.numL i.natAbs = [48] from h2.symm] <;> rfl) rfl
    · rw [if_neg hi, List.nil_append] at h
      have := TL.numL_digits i.natAbs 45 (by rw [← h]; exact List.mem_cons_self)
      omega
/-! ### replaced, in capitals, far -/
abbrev pieceD (q : Seg) : Str := endS q.1 ++ "." ++ endS q.2.1 ++ " " ++ q.2.2
abbrev rp (l : List Nat) : List Nat := PySem.StrLaws.replL [46, 46] [46] l
theorem rp_free : ∀ {p r : List Nat}, 46 ∉ p → rp (p ++ r) = p ++ rp r
  | [], r, _ => rfl
  | c :: p, r, h => by
    have h1 : c ≠ 46 := fun z => h (by rw [z]; exact List.mem_cons_self)
    show PySem.StrLaws.replL [46, 46] [46] (c :: (p ++ r)) = c :: (p ++ rp r)
    rw [PySem.StrLaws.replL_miss (by
      intro z
      have := congrArg List.head? z
      simp at this
      exact h1 this)]
    exact congrArg (c :: ·) (rp_free fun z => h (List.mem_cons_of_mem _ z))
theorem rp_dd (r : List Nat) : rp (46 :: 46 :: r) = 46 :: rp r := PySem.StrLaws.replL_hit (by simp) rfl
theorem rp_piece {q : Seg} (h : SegOk q) (r : List Nat) (hr : True) : rp (tl (pieceS q) ++ r) = tl (pieceD q) ++ rp r := by
  have e1 : tl (pieceS q) ++ r = tl (endS q.1) ++ (46 :: 46 :: ((tl (endS q.2.1) ++ ([32] ++ tl q.2.2)) ++ r)) := by
    rw [tl_piece, tl_ends]
    simp only [List.append_assoc, List.cons_append, List.nil_append]
  have e2 : tl (pieceD q) = tl (endS q.1) ++ (46 :: (tl (endS q.2.1) ++ ([32] ++ tl q.2.2))) := by
    rw [tl3, tl3, tl_sp, show tl ("." : Str) = [46] from by decide +kernel]
    simp only [List.append_assoc, List.cons_append, List.nil_append]
  rw [e1, e2, rp_free (end_no (by omega)), rp_dd, rp_free (fun hm => by
    simp only [List.mem_append, List.mem_cons, List.not_mem_nil, or_false] at hm
    rcases hm with hm | hm | hm
    · exact end_no (by omega) hm
    · cases hm
    · exact word_sign h.2.2 (by omega) hm)]
  simp only [List.append_assoc, List.cons_append]
theorem rp_join : ∀ {L : List Seg}, (∀ q ∈ L, SegOk q) → rp (TL.joinL [44, 32] ((L.map pieceS).map tl)) = TL.joinL [44, 32] ((L.map pieceD).map tl)
  | [], _ => PySem.StrLaws.replL_nil
  | [q], h => by
    have := rp_piece (h q List.mem_cons_self) [] True.intro
    rw [List.append_nil, show rp [] = [] from PySem.StrLaws.replL_nil, List.append_nil] at this
    exact this
  | q :: q' :: r, h => by
    show rp (tl (pieceS q) ++ ([44, 32] ++ TL.joinL [44, 32] (((q' :: r).map pieceS).map tl))) = tl (pieceD q) ++ ([44, 32] ++ TL.joinL [44, 32] (((q' :: r).map pieceD).map tl))
    rw [rp_piece (h q List.mem_cons_self) _ True.intro, rp_free (p := [44, 32]) (by decide), rp_join fun x hx => h x (List.mem_cons_of_mem _ hx)]
theorem replace_T {L : List Seg} (h : ∀ q ∈ L, SegOk q) : Txt.replace (T L) ".." "." = Txt.join ", " (L.map pieceD) := by
  refine TL.ext_tl ?_
  show (Txt.replace (T L) ".." ".").cps.toList = _
  rw [PySem.StrLaws.replace_list (by decide +kernel)]
  show PySem.StrLaws.replL (tl "..") (tl ".") (tl (T L)) = TL.tl (Txt.join ", " (L.map pieceD))
  rw [tl_dd, show tl ("." : Str) = [46] from by decide +kernel, tl_T, TL.join_eq, TL.tl_join, show TL.tl (", " : Str) = [44, 32] from tl_cs]
  exact rp_join h
theorem tl_D (q : Seg) : tl (pieceD q) = tl (endS q.1) ++ [46] ++ tl (endS q.2.1) ++ [32] ++ tl q.2.2 := by
  rw [tl3, tl3, tl_sp, show tl ("." : Str) = [46] from by decide +kernel]
theorem no_comma_D {q : Seg} (h : SegOk q) : 44 ∉ tl (pieceD q) := fun hm => by
  rw [tl_D] at hm
  simp only [List.mem_append, List.mem_cons, List.not_mem_nil, or_false] at hm
  rcases hm with (((hm | hm) | hm) | hm) | hm
  · exact end_no (by omega) hm
  · cases hm
  · exact end_no (by omega) hm
  · cases hm
  · exact word_sign h.2.2 (by omega) hm
theorem bad5 {L : List Seg} (hok : ∀ q ∈ L, SegOk q) (hne : L ≠ []) : BadTx (Txt.replace (T L) ".." ".") := by
  rw [replace_T hok]
  refine bad_of (fun z => hne (List.map_eq_nil_iff.mp z)) (fun p hp => ?_) (join_ne (fun z => hne (List.map_eq_nil_iff.mp z)) fun p hp => ?_) fun L' hL' e => ?_
  · obtain ⟨q, hq, rfl⟩ := List.mem_map.mp hp
    exact no_comma_D (hok q hq)
  · obtain ⟨q, hq, rfl⟩ := List.mem_map.mp hp
    exact ne_of_tl (by rw [tl_D]; simp)
  · cases L with
    | nil => exact hne rfl
    | cons q r =>
      cases L' with
      | nil => cases e
      | cons q' r' =>
        have e1 := (List.cons.inj e).1
        have c1 := (count_piece (hL'.ok q' List.mem_cons_self)).2
        have z : ∀ {l : List Nat} {c : Nat}, c ∉ l → l.count c = 0 := fun h => List.count_eq_zero.mpr h
        rw [← e1, tl_D] at c1
        simp only [List.count_append] at c1
        rw [z (c := 46) (end_no (o := q.1) (by omega)), z (c := 46) (end_no (o := q.2.1) (by omega)), z (c := 46) (word_sign (hok q List.mem_cons_self).2.2 (by omega))] at c1
        revert c1
        decide
theorem upper_T {L : List Seg} (hok : ∀ q ∈ L, SegOk q) : tl (Txt.upper (T L)) = (tl (T L)).map up1 := by
  have h := SX.upper_S (a := tl (T L)) (List.all_eq_true.mpr fun c hc => decide_eq_true (by
    have := text_sign hok hc
    omega))
  have e : SX.S (tl (T L)) = T L := TL.mk_tl _
  rw [e] at h
  rw [h]
theorem T_letter {L : List Seg} (hok : ∀ q ∈ L, SegOk q) (hne : L ≠ []) : ∃ c ∈ tl (T L), 97 ≤ c ∧ c ≤ 122 := by
  cases L with
  | nil => exact absurd rfl hne
  | cons q r =>
    obtain ⟨Y, d, e, hd⟩ := piece_last (hok q List.mem_cons_self)
    obtain ⟨X, e2⟩ := joinL_start [44, 32] (tl (pieceS q)) ((r.map pieceS).map tl)
    refine ⟨d, ?_, hd⟩
    rw [tl_T]
    show d ∈ TL.joinL [44, 32] (tl (pieceS q) :: (r.map pieceS).map tl)
    rw [e2, e]
    simp
theorem bad6 {L : List Seg} (hok : ∀ q ∈ L, SegOk q) (hne : L ≠ []) : BadTx (Txt.upper (T L)) := by
  obtain ⟨c, hc, h1, h2⟩ := T_letter hok hne
  refine bad_sign (c := up1 c) (by rw [upper_T hok]; exact List.mem_map.mpr ⟨c, hc, rfl⟩) ?_
  rw [show up1 c = c - 32 from if_pos ⟨h1, h2⟩]
  omega
abbrev bigS : Str := "1" ++ Str.ofString (String.ofList (List.replicate 60 '0'))
theorem tl_big : tl bigS = 49 :: List.replicate 60 48 := by decide +kernel
theorem bad23p {z : Str} (hz : tl z = (49 :: List.replicate 60 48) ++ [46, 46, 32, 97]) : BadPc z := by
  have e0 : z = bigS ++ ".." ++ "" ++ " " ++ "a" := TL.ext_tl (by
    show tl z = tl (bigS ++ ".." ++ "" ++ " " ++ "a")
    rw [hz, tl3, tl3, tl_big, tl_dd, tl_sp, tl_nil, show tl ("a" : Str) = [97] from by decide +kernel] <;> rfl)
  have nb : ∀ c, c ≠ 48 → c ≠ 49 → c ∉ tl bigS := fun c h1 h2 hm => by
    rw [tl_big] at hm
    rcases List.mem_cons.mp hm with y | y
    · exact h2 y
    · exact h1 (List.eq_of_mem_replicate y)
  refine ⟨ne_of_tl (by rw [hz]; simp), fun hm => ?_, fun q' hq' _ e => ?_⟩
  · rw [hz] at hm
    rcases List.mem_append.mp hm with y | y
    · exact nb 44 (by decide) (by decide) (by rw [tl_big]; exact y)
    · revert y; decide
  · rw [e0] at e
    obtain ⟨e1, _, _⟩ := two_words hq' (nb 32 (by decide) (by decide)) (by rw [tl_nil]; simp) (by decide +kernel) (nb 46 (by decide) (by decide)) (by rw [tl_nil]; simp) e
    have h := congrArg tl e1
    rw [tl_big] at h
    have hf := hq'.1
    cases ho : q'.1 with
    | none =>
      rw [ho, show tl (endS none) = [] from tl_nil] at h
      cases h
    | some i =>
      rw [ho] at hf
      rw [ho, show tl (endS (some i)) = _ from tl_int i] at h
      by_cases hi : i < 0
      · rw [if_pos hi] at h
        have := (List.cons.inj h).1
        omega
      · rw [if_neg hi, List.nil_append] at h
        have h2 := TL.numL_len (n := i.natAbs) (k := 60) (by decide) hf
        rw [← h] at h2
        simp at h2
theorem bad_more {L : List Seg} {p : Str} (hs : Sg L) (hp : BadPc p) : BadTx (Txt.join ", " (L.map pieceS ++ [p])) := by
  have hm : ∀ x ∈ L.map pieceS ++ [p], x = p ∨ ∃ q ∈ L, x = pieceS q := fun x hx => by
    rcases List.mem_append.mp hx with z | z
    · obtain ⟨q, hq, e⟩ := List.mem_map.mp z
      exact .inr ⟨q, hq, e.symm⟩
    · exact .inl (List.mem_singleton.mp z)
  refine bad_of (by simp) (fun x hx => ?_) (join_ne (by simp) fun x hx => ?_) fun L' hL' e => ?_
  · rcases hm x hx with rfl | ⟨q, hq, rfl⟩
    · exact hp.2.1
    · exact no_comma (hs.ok q hq)
  · rcases hm x hx with rfl | ⟨q, hq, rfl⟩
    · exact hp.1
    · exact piece_ne q
  · have : p ∈ L'.map pieceS := by rw [← e]; simp
    obtain ⟨q, hq, e2⟩ := List.mem_map.mp this
    exact hp.2.2 q (hL'.ok q hq) (hL'.lt q hq) e2.symm
/-! ### numbers that are written -/
theorem numL_of : ∀ (n : Nat) (d : List Nat), d.length = n → d ≠ [] → (∀ c ∈ d, 48 ≤ c ∧ c ≤ 57) → (d.head? ≠ some 48 ∨ d = [48]) → ∃ m, TL.numL m = d ∧ m < 10 ^ d.length
  | 0, d, hl, hne, _, _ => absurd (List.length_eq_zero_iff.mp hl) hne
  | n + 1, d, hl, hne, hd, hh => by
    obtain ⟨d', c, rfl⟩ : ∃ d' c, d = d' ++ [c] := ⟨d.dropLast, d.getLast hne, (List.dropLast_concat_getLast hne).symm⟩
    have hc := hd c (by simp)
    by_cases h0 : d' = []
    · subst h0
      refine ⟨c - 48, ?_, ?_⟩
      · rw [TL.numL_lt (by omega)]
        show [48 + (c - 48)] = [c]
        rw [show 48 + (c - 48) = c by omega]
      · show c - 48 < 10 ^ 1
        omega
    · have hl' : d'.length = n := by rw [List.length_append, List.length_singleton] at hl; omega
      have hn : d'.head? ≠ some 48 := by
        rcases hh with h | h
        · rw [List.head?_append] at h
          cases e : d'.head? with
          | none => exact fun z => nomatch z
          | some x =>
            rw [e] at h
            exact h
        · have := congrArg List.length h
          rw [List.length_append, List.length_singleton] at this
          have h2 : d'.length = 0 := by simpa using this
          exact absurd (List.length_eq_zero_iff.mp h2) h0
      obtain ⟨m, hm, hlt⟩ := numL_of n d' hl' h0 (fun x hx => hd x (List.mem_append_left _ hx)) (.inl hn)
      have hm1 : 1 ≤ m := by
        cases m with
        | zero =>
          rw [TL.numL_lt (by omega)] at hm
          rw [← hm] at hn
          exact absurd rfl hn
        | succ m => omega
      refine ⟨m * 10 + (c - 48), ?_, ?_⟩
      · rw [TL.numL_step (by omega), show (m * 10 + (c - 48)) / 10 = m by omega, show (m * 10 + (c - 48)) % 10 = c - 48 by omega, hm, show 48 + (c - 48) = c by omega]
      · rw [List.length_append, List.length_singleton, Nat.pow_succ]
        omega
theorem canon_pos {z : Str} (hne : tl z ≠ []) (hl : (tl z).length ≤ 60) (hd : ∀ c ∈ tl z, 48 ≤ c ∧ c ≤ 57) (hh : (tl z).head? ≠ some 48 ∨ tl z = [48]) : ∃ o, EndOk o ∧ z = endS o := by
  obtain ⟨m, hm, hlt⟩ := numL_of _ (tl z) rfl hne hd hh
  refine ⟨some (m : Int), ?_, TL.ext_tl ?_⟩
  · show (m : Int).natAbs < Far
    exact Nat.lt_of_lt_of_le hlt (Nat.pow_le_pow_right (by decide) hl)
  · show tl z = tl (intS m)
    rw [tl_int, if_neg (by omega), List.nil_append, ← hm] <;> rfl
theorem canon_neg {z : Str} {d : List Nat} (e : tl z = 45 :: d) (hne : d ≠ []) (hl : d.length ≤ 60) (hd : ∀ c ∈ d, 48 ≤ c ∧ c ≤ 57) (hh : d.head? ≠ some 48) : ∃ o, EndOk o ∧ z = endS o := by
  obtain ⟨m, hm, hlt⟩ := numL_of _ d rfl hne hd (.inl hh)
  have hm1 : 1 ≤ m := by
    cases m with
    | zero =>
      rw [TL.numL_lt (by omega)] at hm
      rw [← hm] at hh
      exact absurd rfl hh
    | succ m => omega
  refine ⟨some (-(m : Int)), ?_, TL.ext_tl ?_⟩
  · show (-(m : Int)).natAbs < Far
    rw [Int.natAbs_neg]
    exact Nat.lt_of_lt_of_le hlt (Nat.pow_le_pow_right (by decide) hl)
  · show tl z = tl (intS (-(m : Int)))
    rw [tl_int, if_pos (by omega), e, Int.natAbs_neg, ← hm] <;> rfl
/-! ### how long, how many commas -/
structure SpOk (z : Str) : Prop where
  bad : BadTx z
  len : z.length ≤ 5000
  com : (tl z).count 44 ≤ 40
theorem SpOk.ne {z : Str} (h : SpOk z) : decide (z = "") = false := decide_eq_false fun e => h.bad .non [] ⟨fun x hx => by rw [List.mem_singleton.mp hx]; exact .inl rfl, (fun _ h => nomatch h), by decide⟩ List.Pairwise.nil True.intro (by rw [e] <;> rfl)
theorem join_len {m : Nat} {P : List Str} (h : ∀ p ∈ P, p.length ≤ m) : (Txt.join ", " P).length ≤ (m + 2) * P.length := by
  have h1 := joinL_len [44, 32] (P.map tl)
  have h2 : ((P.map tl).map (·.length)).sum ≤ m * P.length := by
    clear h1
    induction P with
    | nil => exact Nat.zero_le _
    | cons p r ih =>
      have := ih fun x hx => h x (List.mem_cons_of_mem _ hx)
      have h3 := h p List.mem_cons_self
      rw [List.map_cons, List.map_cons, List.sum_cons, List.length_cons, Nat.mul_succ]
      rw [len_tl] at h3
      have h3 : (tl p).length ≤ m := h3
      omega
  rw [len_tl, TL.join_eq, TL.tl_join, show TL.tl (", " : Str) = [44, 32] from tl_cs]
  rw [List.length_map] at h1
  have h1 : (TL.joinL [44, 32] (P.map tl)).length ≤ ((P.map tl).map (·.length)).sum + P.length * 2 := h1
  have e : (m + 2) * P.length = m * P.length + P.length * 2 := by rw [Nat.add_mul, Nat.mul_comm 2]
  show (TL.joinL [44, 32] (P.map tl)).length ≤ _
  omega
theorem joinL_count {k : Nat} : ∀ {P : List (List Nat)}, (∀ p ∈ P, p.count 44 ≤ k) → (TL.joinL [44, 32] P).count 44 ≤ (k + 1) * P.length
  | [], _ => Nat.zero_le _
  | [p], h => by
    have := h p List.mem_cons_self
    show p.count 44 ≤ (k + 1) * 1
    omega
  | p :: q :: r, h => by
    have h1 := h p List.mem_cons_self
    have h2 := joinL_count (P := q :: r) fun x hx => h x (List.mem_cons_of_mem _ hx)
    show (p ++ ([44, 32] ++ TL.joinL [44, 32] (q :: r))).count 44 ≤ (k + 1) * ((q :: r).length + 1)
    rw [List.count_append, List.count_append, show [44, 32].count 44 = 1 from by decide, Nat.mul_succ]
    omega
theorem join_count {k : Nat} {P : List Str} (h : ∀ p ∈ P, (tl p).count 44 ≤ k) : (tl (Txt.join ", " P)).count 44 ≤ (k + 1) * P.length := by
  have e : tl (Txt.join ", " P) = TL.joinL [44, 32] (P.map tl) := by
    show TL.tl _ = _
    rw [TL.join_eq, TL.tl_join, show TL.tl (", " : Str) = [44, 32] from tl_cs]
  rw [e]
  have := joinL_count (k := k) (P := P.map tl) fun p hp => by
    obtain ⟨x, hx, rfl⟩ := List.mem_map.mp hp
    exact h x hx
  rw [List.length_map] at this
  exact this
theorem T_len {L : List Seg} (h : ∀ q ∈ L, SegOk q) (hl : L.length ≤ 9) : (T L).length ≤ 1251 := by
  have := text_len h
  show (Txt.join ", " (L.map pieceS)).length ≤ 1251
  omega
theorem T_com {L : List Seg} (h : ∀ q ∈ L, SegOk q) (hl : L.length ≤ 9) : (tl (T L)).count 44 ≤ 9 := by
  have := join_count (k := 0) (P := L.map pieceS) fun p hp => by
    obtain ⟨q, hq, rfl⟩ := List.mem_map.mp hp
    rw [List.count_eq_zero.mpr (no_comma (h q hq))]
    exact Nat.le_refl 0
  rw [List.length_map] at this
  show (tl (Txt.join ", " (L.map pieceS))).count 44 ≤ 9
  omega
section
variable {L : List Seg} (hs : Sg L) (hne : L ≠ []) (hl : L.length ≤ 9)
include hs hl
theorem sp_tail {x : Str} (h : BadTx (T L ++ x)) (hx : x.length ≤ 2) : SpOk (T L ++ x) := by
  refine ⟨h, ?_, ?_⟩
  · have := T_len hs.ok hl
    rw [len_app]
    omega
  · have h1 := T_com hs.ok hl
    have h2 : (tl x).count 44 ≤ (tl x).length := List.count_le_length
    rw [len_tl] at hx
    have hx : (tl x).length ≤ 2 := hx
    rw [tl2, List.count_append]
    omega
theorem sp3 : SpOk (" " ++ T L) := by
  refine ⟨bad3 _, ?_, ?_⟩
  · have := T_len hs.ok hl
    rw [len_app, len_sp]
    omega
  · have h1 := T_com hs.ok hl
    rw [tl2, tl_sp, List.count_append, show [32].count 44 = 0 from by decide]
    omega
theorem sp19 {x y : Str} (e : tl x ++ tl y = tl (T L)) : SpOk (x ++ "#" ++ y) := by
  have h1 := T_len hs.ok hl
  have h2 := T_com hs.ok hl
  refine ⟨bad19 _ _, ?_, ?_⟩
  · rw [len_app, len_app, show ("#" : Str).length = 1 from by decide +kernel]
    rw [len_tl, show TL.tl (T L) = tl (T L) from rfl, ← e, List.length_append] at h1
    rw [len_tl x, len_tl y]
    show (tl x).length + 1 + (tl y).length ≤ 5000
    omega
  · rw [← e, List.count_append] at h2
    rw [tl3, List.count_append, List.count_append, show (tl ("#" : Str)).count 44 = 0 from by decide +kernel]
    omega
include hne
theorem sp5 : SpOk (Txt.replace (T L) ".." ".") := by
  have h1 := T_len hs.ok hl
  refine ⟨bad5 hs.ok hne, ?_, ?_⟩
  · have := TK.replace_len (T L) ".." "."
    rw [show ("." : Str).length = 1 from by decide +kernel] at this
    omega
  · rw [replace_T hs.ok]
    have := join_count (k := 0) (P := L.map pieceD) fun p hp => by
      obtain ⟨q, hq, rfl⟩ := List.mem_map.mp hp
      rw [List.count_eq_zero.mpr (no_comma_D (hs.ok q hq))]
      exact Nat.le_refl 0
    rw [List.length_map] at this
    omega
theorem sp6 : SpOk (Txt.upper (T L)) := by
  have h1 := T_len hs.ok hl
  refine ⟨bad6 hs.ok hne, ?_, ?_⟩
  · rw [len_tl, show TL.tl (Txt.upper (T L)) = _ from upper_T hs.ok, List.length_map]
    rw [len_tl] at h1
    have h1 : (tl (T L)).length ≤ 1251 := h1
    omega
  · rw [upper_T hs.ok]
    have h2 := T_com hs.ok hl
    have h3 : ∀ l : List Nat, (l.map up1).count 44 = l.count 44 := fun l => by
      induction l with
      | nil => rfl
      | cons c r ih =>
        rw [List.map_cons, List.count_cons, List.count_cons, ih]
        congr 1
        unfold up1
        by_cases hc : 97 ≤ c ∧ c ≤ 122
        · rw [if_pos hc]
          have a1 : (c - 32 == 44) = false := beq_eq_false_iff_ne.mpr (by omega)
          have a2 : (c == 44) = false := beq_eq_false_iff_ne.mpr (by omega)
          rw [a1, a2]
        · rw [if_neg hc]
    rw [h3]
    omega
theorem sp7 : SpOk (T L ++ ", " ++ T L) := by
  have h1 := T_len hs.ok hl
  have h2 := T_com hs.ok hl
  refine ⟨bad7 hs hne, by rw [len_app, len_app, len_cs]; omega, ?_⟩
  rw [tl3, tl_cs, List.count_append, List.count_append, show [44, 32].count 44 = 1 from by decide]
  omega
theorem sp21 : SpOk (Txt.join ", " ((L.map pieceS).reverse ++ (L.map pieceS).take 1)) := by
  have hm : ∀ p ∈ (L.map pieceS).reverse ++ (L.map pieceS).take 1, ∃ q ∈ L, p = pieceS q := fun p hp => by
    have : p ∈ L.map pieceS := (List.mem_append.mp hp).elim (fun z => List.mem_reverse.mp z) fun z => List.mem_of_mem_take z
    obtain ⟨q, hq, e⟩ := List.mem_map.mp this
    exact ⟨q, hq, e.symm⟩
  have hll : ((L.map pieceS).reverse ++ (L.map pieceS).take 1).length ≤ 10 := by
    rw [List.length_append, List.length_reverse, List.length_map, List.length_take]
    omega
  refine ⟨bad21 hs hne, ?_, ?_⟩
  · have := join_len (m := 137) (P := (L.map pieceS).reverse ++ (L.map pieceS).take 1) fun p hp => by
      obtain ⟨q, hq, rfl⟩ := hm p hp
      exact piece_len (hs.ok q hq)
    omega
  · have := join_count (k := 0) (P := (L.map pieceS).reverse ++ (L.map pieceS).take 1) fun p hp => by
      obtain ⟨q, hq, rfl⟩ := hm p hp
      rw [List.count_eq_zero.mpr (no_comma (hs.ok q hq))]
      exact Nat.le_refl 0
    omega
theorem sp22 {x : Seg} (hx : L.getLast? = some x) : SpOk (T L ++ ", " ++ endsS x.1 x.2.1 ++ " zz") := by
  have h1 := T_len hs.ok hl
  have h2 := T_com hs.ok hl
  have hm := hs.ok x (List.mem_of_getLast? hx)
  obtain ⟨L0, e⟩ : ∃ L0, L = L0 ++ [x] := by
    refine ⟨L.dropLast, ?_⟩
    rw [List.getLast?_eq_some_getLast hne] at hx
    rw [← Option.some.inj hx]
    exact (List.dropLast_concat_getLast hne).symm
  refine ⟨by rw [e]; exact bad22 (by rw [← e]; exact hs), ?_, ?_⟩
  · have a1 := end_len hm.1
    have a2 := end_len hm.2.1
    rw [len_app, len_app, len_app, len_cs, show (" zz" : Str).length = 3 from by decide +kernel, show (endsS x.1 x.2.1).length = (endS x.1).length + 2 + (endS x.2.1).length from by rw [len_app, len_app, len_dd]]
    omega
  · rw [tl2, tl3, tl_cs, List.count_append, List.count_append, List.count_append, List.count_eq_zero.mpr (ends_no_comma x.1 x.2.1), show [44, 32].count 44 = 1 from by decide, show (tl (" zz" : Str)).count 44 = 0 from by decide +kernel]
    omega
theorem sp23 {z : Str} (hz : tl z = tl (T L) ++ [44, 32] ++ ((49 :: List.replicate 60 48) ++ [46, 46, 32, 97])) : SpOk z := by
  have h1 := T_len hs.ok hl
  have h2 := T_com hs.ok hl
  have e : z = Txt.join ", " (L.map pieceS ++ [SX.S ((49 :: List.replicate 60 48) ++ [46, 46, 32, 97])]) := by
    rw [join_app (fun z => hne (List.map_eq_nil_iff.mp z)) (by simp), join_one]
    refine TL.ext_tl ?_
    show tl z = tl (T L ++ ", " ++ SX.S _)
    rw [tl3, tl_cs, hz] <;> rfl
  refine ⟨by rw [e]; exact bad_more hs (bad23p rfl), ?_, ?_⟩
  · rw [len_tl] at h1 ⊢
    rw [show TL.tl z = _ from hz]
    simp only [List.length_append, List.length_cons, List.length_replicate, List.length_nil]
    have h1 : (tl (T L)).length ≤ 1251 := h1
    omega
  · have c0 : List.count 44 (((49 :: List.replicate 60 48) ++ [46, 46, 32, 97]) : List Nat) = 0 := by decide +kernel
    have c1 : List.count 44 ([44, 32] : List Nat) = 1 := by decide
    rw [hz, List.count_append, List.count_append, c1, c0]
    omega
end
/-- what a spoiled piece is -/
def PcOk (p : Str) : Prop := p.length ≤ 300 ∧ (BadPc p ∨ ∃ (s e : Option Int) (h : Int) (w : Str), SegOk (s, some h, w) ∧ SegOk (some h, e, w) ∧ p = pieceS (s, some h, w) ++ ", " ++ pieceS (some h, e, w))
theorem sp_set {L : List Seg} {j : Nat} {p : Str} (hs : Sg L) (hl : L.length ≤ 9) (hj : j < L.length) (hp : PcOk p) : SpOk (Txt.join ", " ((L.map pieceS).set j p)) := by
  have hm : ∀ x ∈ (L.map pieceS).set j p, x = p ∨ ∃ q ∈ L, x = pieceS q := fun x hx => by
    rcases List.mem_or_eq_of_mem_set hx with z | z
    · obtain ⟨q, hq, e⟩ := List.mem_map.mp z
      exact .inr ⟨q, hq, e.symm⟩
    · exact .inl z
  have hll : ((L.map pieceS).set j p).length ≤ 9 := by rw [List.length_set, List.length_map]; exact hl
  have hc : (tl p).count 44 ≤ 1 := by
    rcases hp.2 with h | ⟨s, e, h, w, a, b, rfl⟩
    · rw [List.count_eq_zero.mpr h.2.1]; exact Nat.zero_le _
    · rw [tl3, tl_cs, List.count_append, List.count_append, List.count_eq_zero.mpr (no_comma a), List.count_eq_zero.mpr (no_comma (q := (some h, e, w)) b)]
      decide
  refine ⟨?_, ?_, ?_⟩
  · rcases hp.2 with h | ⟨s, e, h, w, a, b, rfl⟩
    · exact bad_set hs hj h
    · exact bad_two hs hj a b
  · have := join_len (m := 300) (P := (L.map pieceS).set j p) fun x hx => by
      rcases hm x hx with rfl | ⟨q, hq, rfl⟩
      · exact hp.1
      · have := piece_len (hs.ok q hq)
        omega
    omega
  · have := join_count (k := 1) (P := (L.map pieceS).set j p) fun x hx => by
      rcases hm x hx with rfl | ⟨q, hq, rfl⟩
      · exact hc
      · rw [List.count_eq_zero.mpr (no_comma (hs.ok q hq))]
        exact Nat.zero_le _
    omega
/-! ### texts that are cut at a word, whatever they are -/
theorem spl_all (S : List Nat) : ∀ (l : List Nat) (k : Nat) (acc : List Nat), TL.spl S k acc l ≠ [] ∧ (∀ p ∈ TL.spl S k acc l, p.length ≤ acc.length + l.length)
  | [], k, acc => by
    rw [TL.spl_nil]
    exact ⟨by simp, fun p hp => by rw [List.mem_singleton.mp hp]; exact Nat.le_refl _⟩
  | c :: r, 0, acc => by
    cases h : TL.pre S (c :: r) with
    | true =>
      rw [TL.spl_hit h]
      refine ⟨by simp, fun p hp => ?_⟩
      rcases List.mem_cons.mp hp with rfl | hp
      · exact Nat.le_add_right _ _
      · have := (spl_all S r (S.length - 1) []).2 p hp
        simp only [List.length_nil, List.length_cons] at this ⊢
        omega
    | false =>
      rw [TL.spl_miss h]
      refine ⟨(spl_all S r 0 (acc ++ [c])).1, fun p hp => ?_⟩
      have := (spl_all S r 0 (acc ++ [c])).2 p hp
      simp only [List.length_append, List.length_cons, List.length_nil] at this ⊢
      omega
  | c :: r, k + 1, acc => by
    refine ⟨(spl_all S r k acc).1, fun p hp => ?_⟩
    have := (spl_all S r k acc).2 p hp
    rw [List.length_cons]
    omega
theorem spl_count (s : Nat) (S : List Nat) : ∀ (l : List Nat) (k : Nat) (acc : List Nat), (TL.spl (s :: S) k acc l).length ≤ l.count s + 1
  | [], k, acc => by rw [TL.spl_nil]; simp
  | c :: r, 0, acc => by
    have hle : r.count s ≤ (c :: r).count s := by rw [List.count_cons]; omega
    cases h : TL.pre (s :: S) (c :: r) with
    | true =>
      rw [TL.spl_hit h]
      have hc : c = s := by
        by_cases hc : c = s
        · exact hc
        · rw [TL.pre_of_head S r hc] at h
          cases h
      have := spl_count s S r ((s :: S).length - 1) []
      rw [List.length_cons, hc, List.count_cons_self]
      omega
    | false =>
      rw [TL.spl_miss h]
      have := spl_count s S r 0 (acc ++ [c])
      omega
  | c :: r, k + 1, acc => by
    have hle : r.count s ≤ (c :: r).count s := by rw [List.count_cons]; omega
    have := spl_count s S r k acc
    show (TL.spl (s :: S) k acc r).length ≤ _
    omega
theorem split_all {x y : Str} (hy : tl y ≠ []) (hk : y.cps.all (· < 256) = true) : Txt.split x y ≠ [] ∧ ∀ p ∈ Txt.split x y, p.length ≤ x.length := by
  have e := TL.split_spl x y hy (TL.kind_ok hk)
  obtain ⟨h1, h2⟩ := spl_all (tl y) (tl x) 0 []
  have e : (Txt.split x y).map tl = TL.spl (tl y) 0 [] (tl x) := e
  refine ⟨fun z => h1 (by rw [← e, z] <;> rfl), fun p hp => ?_⟩
  have := h2 (tl p) (by rw [← e]; exact List.mem_map.mpr ⟨p, hp, rfl⟩)
  rw [len_tl p, len_tl x]
  simpa using this
theorem split_count {x : Str} : (Txt.split x ", ").length ≤ (tl x).count 44 + 1 := by
  have e : (Txt.split x ", ").map tl = TL.spl (tl ", ") 0 [] (tl x) := TL.split_spl x ", " (by decide +kernel) (TL.kind_ok (by decide +kernel))
  have := spl_count 44 [32] (tl x) 0 []
  rw [show ([44, 32] : List Nat) = tl ", " from by decide +kernel, ← e, List.length_map] at this
  exact this
/-- the cuts of a line in the one form are among the places at which it may change -/
theorem cuts_in {v : V} {ps : List (Int × V)} {es : List Int} (hr : Ris ps) (hn : Nrm v ps) (h : Steps (at_ v ps) es) : ∀ p ∈ ps, p.1 ∈ es := fun p hp => by
  refine Classical.byContradiction fun hne => ?_
  have h1 := h (p.1 - 1) p.1 (by omega) fun e he => by
    by_cases z : e ≤ p.1 - 1
    · exact .inl z
    · right
      have : e ≠ p.1 := fun w => hne (by rw [← w]; exact he)
      omega
  clear h hne
  induction ps generalizing v with
  | nil => cases hp
  | cons q r ih =>
    obtain ⟨c, g⟩ := q
    obtain ⟨k1, k2⟩ := List.pairwise_cons.mp hr
    rcases List.mem_cons.mp hp with rfl | hp
    · rw [at_cons, at_cons, if_neg (by show ¬ c ≤ c - 1; omega), if_pos (Int.le_refl _), at_lo (fun p hp => by have : c < p.1 := k1 p hp; omega), at_lo (fun p hp => k1 p hp)] at h1
      exact hn.1 h1.symm
    · have hlt : c < p.1 := k1 p hp
      rw [at_cons, at_cons, if_pos (by omega), if_pos (by omega)] at h1
      exact ih k2 hn.2 hp h1
end Cut
/-! promises: texts that may be refused -/
namespace Cut
open PySem PySem.Spec PyProof.Rows L2 Wk
theorem figs_out {c : Nat} (h : ¬ (48 ≤ c ∧ c ≤ 57)) : decide (c ∈ ("0123456789" : Str).cps.toList) = false := by
  refine decide_eq_false fun hm => h ?_
  have hm : c ∈ tl ("0123456789" : Str) := hm
  rw [figs] at hm
  simp only [List.mem_cons, List.not_mem_nil, or_false] at hm
  omega
theorem abc_out {c : Nat} (h : ¬ (97 ≤ c ∧ c ≤ 122)) : decide (c ∈ abc.cps.toList) = false := by
  refine decide_eq_false fun hm => h ?_
  have e : abc.cps.toList = [97, 98, 99, 100, 101, 102, 103, 104, 105, 106, 107, 108, 109, 110, 111, 112, 113, 114, 115, 116, 117, 118, 119, 120, 121, 122] := by decide +kernel
  rw [e] at hm
  simp only [List.mem_cons, List.not_mem_nil, or_false] at hm
  omega
theorem zero_eq {z : Str} : decide (z = "0") = true ↔ tl z = [48] := by
  constructor
  · intro h
    rw [of_decide_eq_true h]
    decide +kernel
  · intro h
    exact decide_eq_true (TL.ext_tl (by show tl z = tl "0"; rw [h]; decide +kernel))
section
variable (K : PySem.W.Frag) (C D : Addr)
def sp_end_ofX : Sp := fun vs H Q E => ∃ z : Str, vs = [.str z] ∧ z.length ≤ 100000 ∧ (∀ o, EndOk o → z = endS o → ∀ H', Same H H' → Q (optV o) H') ∧ ((∀ o, EndOk o → z ≠ endS o) → ∀ H', Same H H' → E (.ref D) none H')
def sp_value_ofX : Sp := fun vs H Q E => ∃ z : Str, vs = [.str z] ∧ z.length ≤ 100000 ∧ (Word z → ∀ H', Same H H' → Q (.str z) H') ∧ (¬ Word z → ∀ H', Same H H' → E (.ref D) none H')
def sp_readX : Sp := fun vs H Q E => ∃ z : Str, vs = [.str z] ∧ ((∃ v ps, z = textOf v ps ∧ Wr v ps ∧ Ris ps ∧ Nrm v ps ∧ ∀ (H' : Hp) (p : Addr), Same H H' → LineOk C H' p v ps → Q (.ref p) H') ∨ (SpOk z ∧ ∀ H', Same H H' → E (.ref D) none H'))
def sp_law_refusedT : Sp := fun vs H Q _ => ∃ z : Str, vs = [.str z] ∧ SpOk z ∧ ∀ H', Same H H' → Q (.bl true) H'
def sp_law_in_two : Sp := fun vs H Q _ => ∃ (a : Addr) (q : Seg), vs = [.ref a, .str q.2.2] ∧ SqL K H a [.str (endS q.1), .str (endS q.2.1)] ∧ SegOk q ∧ (q.1 ≠ none ∨ q.2.1 ≠ none) ∧ (∀ i, q.1 = some i → i.natAbs < 10 ^ 30) ∧ (∀ i, q.2.1 = some i → i.natAbs < 10 ^ 30) ∧ ∀ H' p, Same H H' → PcOk p → Q (.str p) H'
def sp_law_piece : Sp := fun vs H Q _ => ∃ (q : Seg) (w c : Int), vs = [.int w, .str (pieceS q), .int c] ∧ ((9 ≤ w ∧ w ≤ 18) ∨ w = 24) ∧ 0 ≤ c ∧ SegOk q ∧ SLt q ∧ (q.1 ≠ none ∨ q.2.1 ≠ none) ∧ (∀ i, q.1 = some i → i.natAbs < 10 ^ 30) ∧ (∀ i, q.2.1 = some i → i.natAbs < 10 ^ 30) ∧ ∀ H' p, Same H H' → PcOk p → Q (.str p) H'
/-- what the law's lines are like -/
structure LineB (v : V) (ps : List (Int × V)) : Prop where
  hv : AllHV v ps
  ris : Ris ps
  nrm : Nrm v ps
  near : ∀ p ∈ ps, p.1.natAbs < 10 ^ 30
  ne : ps ≠ []
  len : ps.length ≤ 8
def sp_law_spoiled : Sp := fun vs H Q _ => ∃ (v : V) (ps : List (Int × V)) (w c : Int), vs = [.int w, .str (textOf v ps), .int c] ∧ 1 ≤ w ∧ w ≤ 24 ∧ w ≠ 20 ∧ 0 ≤ c ∧ LineB v ps ∧ ∀ H' z, Same H H' → SpOk z → Q (.str z) H'
/-- neighbours hold unlike things -/
def Adj (ps : List (Int × V)) : Prop := ∀ (j : Nat) (p p' : Int × V), ps[j]? = some p → ps[j + 1]? = some p' → p'.2 ≠ p.2
/-- what is told ahead of the one form -/
structure Pieces (ps : List (Int × V)) : Prop where
  hv : AllHV .non ps
  ris : Ris ps
  near : ∀ p ∈ ps, p.1.natAbs < 10 ^ 20
  adj : Adj ps
  len : 2 ≤ ps.length ∧ ps.length ≤ 9
  few : ∀ p, ps[0]? = some p → p.2 ≠ .non → ps.length ≤ 8
  one : ∀ p, ps[0]? = some p → p.2 = .non → 3 ≤ ps.length
/-- .. while it grows: i stretches, the next from place on -/
structure Grow (i : Nat) (place : Int) (acc : List (Int × V)) : Prop where
  hv : AllHV .non acc
  ris : Ris acc
  lo : ∀ p ∈ acc, -1000 ≤ p.1 ∧ p.1 < place
  adj : Adj acc
  len : i ≤ acc.length ∧ acc.length ≤ 2 * i
  few : ∀ p, acc[0]? = some p → p.2 ≠ .non → acc.length + 1 ≤ 2 * i
  last : acc = [] ∨ ∃ r c z, acc = r ++ [(c, .str z)]
  hp : -1000 ≤ place ∧ place ≤ 1001 + 7 * (i : Int)
  one : ∀ p, acc[0]? = some p → p.2 = .non → 2 ≤ acc.length
def sp_law_pieces : Sp := fun vs H Q _ => ∃ (a : Addr) (ns : List Int) (n : Nat), vs = [.ref a, .int n] ∧ SqL K H a (ns.map V.int) ∧ 1 ≤ n ∧ n ≤ 4 ∧ ∀ (H' : Hp) (u mc mh : Addr) (ps : List (Int × V)), Same H H' → ToldAt H' u mc mh .non ps → Pieces ps → Q (.ref u) H'
/-- holds that are not changed, left out -/
def slim (v : V) : List (Int × V) → List (Int × V)
  | [] => []
  | (c, h) :: r => if h = v then slim v r else (c, h) :: slim h r
def sp_law_one_form : Sp := fun vs H Q _ => ∃ (t lc lh : Addr) (v : V) (ps : List (Int × V)), vs = [.ref t] ∧ ToldAt H t lc lh v ps ∧ AllHV v ps ∧ ps.length ≤ 100 ∧ ∀ (H' : Hp) (u mc mh : Addr), Same H H' → ToldAt H' u mc mh v (slim v ps) → Q (.ref u) H'
end
theorem slim_sub : ∀ {ps : List (Int × V)} {v : V}, (slim v ps).Sublist ps
  | [], _ => List.Sublist.slnil
  | (c, h) :: r, v => by
    unfold slim
    split
    · exact (slim_sub (ps := r) (v := v)).cons _
    · exact (slim_sub (ps := r) (v := h)).cons_cons _
theorem slim_nrm : ∀ {ps : List (Int × V)} {v : V}, Nrm v (slim v ps)
  | [], _ => True.intro
  | (c, h) :: r, v => by
    unfold slim
    split
    · exact slim_nrm (ps := r) (v := v)
    · exact ⟨by assumption, slim_nrm (ps := r) (v := h)⟩
theorem slim_ne : ∀ {ps : List (Int × V)} {v : V}, (∃ p ∈ ps, p.2 ≠ v) → slim v ps ≠ []
  | [], _, ⟨p, hp, _⟩ => nomatch hp
  | (c, h) :: r, v, ⟨p, hp, hne⟩ => by
    unfold slim
    by_cases e : h = v
    · rw [if_pos e]
      refine slim_ne (ps := r) (v := v) ⟨p, ?_, hne⟩
      rcases List.mem_cons.mp hp with rfl | hp
      · exact absurd e hne
      · exact hp
    · rw [if_neg e]
      simp
theorem slim_hv {ps : List (Int × V)} {v : V} (h : AllHV v ps) : AllHV v (slim v ps) := fun x hx => by
  rcases List.mem_cons.mp hx with rfl | hx
  · exact h _ List.mem_cons_self
  · obtain ⟨p, hp, rfl⟩ := List.mem_map.mp hx
    exact h _ (List.mem_cons_of_mem _ (List.mem_map.mpr ⟨p, slim_sub.subset hp, rfl⟩))
theorem LineB.wr {v : V} {ps : List (Int × V)} (h : LineB v ps) : Wr v ps := ⟨h.hv, fun p hp => Nat.lt_of_lt_of_le (h.near p hp) (by decide), by have := h.len; omega⟩
theorem LineB.sg {v : V} {ps : List (Int × V)} (h : LineB v ps) : Sg (segs v ps) := h.wr.sg h.ris h.nrm
theorem LineB.few {v : V} {ps : List (Int × V)} (h : LineB v ps) : (segs v ps).length ≤ 9 := by
  have h1 := List.length_filterMap_le told (segsV none v ps)
  rw [segsV_len] at h1
  have := h.len
  show (List.filterMap told (segsV none v ps)).length ≤ 9
  omega
theorem LineB.any {v : V} {ps : List (Int × V)} (h : LineB v ps) : segs v ps ≠ [] := by
  obtain ⟨hv, _, hn, _, hne, _⟩ := h
  cases ps with
  | nil => exact absurd rfl hne
  | cons p r =>
    obtain ⟨c, g⟩ := p
    rcases hv v List.mem_cons_self with rfl | ⟨z, hz, rfl⟩
    · rcases hv g (List.mem_cons_of_mem _ List.mem_cons_self) with rfl | ⟨z, hz, rfl⟩
      · exact absurd rfl hn.1
      · intro w
        cases r with
        | nil => cases w
        | cons p2 r2 => cases w
    · intro w
      cases w
theorem segsV_mem : ∀ {ps : List (Int × V)} {s : Option Int} {v : V} {q : Option Int × Option Int × V}, q ∈ segsV s v ps → (q.1 = s ∨ ∃ p ∈ ps, q.1 = some p.1) ∧ (q.2.1 = none ∨ ∃ p ∈ ps, q.2.1 = some p.1)
  | [], s, v, q, h => by
    rw [List.mem_singleton.mp h]
    exact ⟨.inl rfl, .inl rfl⟩
  | (c, g) :: r, s, v, q, h => by
    have h : q ∈ (s, some c, v) :: segsV (some c) g r := h
    rcases List.mem_cons.mp h with rfl | h
    · exact ⟨.inl rfl, .inr ⟨(c, g), List.mem_cons_self, rfl⟩⟩
    · obtain ⟨a, b⟩ := segsV_mem h
      refine ⟨.inr ?_, ?_⟩
      · rcases a with a | ⟨p, hp, e⟩
        · exact ⟨(c, g), List.mem_cons_self, a⟩
        · exact ⟨p, List.mem_cons_of_mem _ hp, e⟩
      · rcases b with b | ⟨p, hp, e⟩
        · exact .inl b
        · exact .inr ⟨p, List.mem_cons_of_mem _ hp, e⟩
theorem LineB.near' {v : V} {ps : List (Int × V)} (h : LineB v ps) : ∀ q ∈ segs v ps, (q.1 ≠ none ∨ q.2.1 ≠ none) ∧ (∀ i, q.1 = Option.some i → i.natAbs < 10 ^ 30) ∧ (∀ i, q.2.1 = Option.some i → i.natAbs < 10 ^ 30) := fun q hq => by
  obtain ⟨x, hx, e⟩ := List.mem_filterMap.mp hq
  obtain ⟨s, d, u⟩ := x
  obtain ⟨_, e2, e3⟩ := told_str e
  obtain ⟨m1, m2⟩ := segsV_mem hx
  refine ⟨?_, fun i hi => ?_, fun i hi => ?_⟩
  · rw [e2, e3]
    have hne := h.ne
    cases ps with
    | nil => exact absurd rfl hne
    | cons p r =>
      obtain ⟨c, g⟩ := p
      have hx : (s, d, u) ∈ (none, Option.some c, v) :: segsV (Option.some c) g r := hx
      rcases List.mem_cons.mp hx with z | z
      · right
        cases z
        exact fun y => nomatch y
      · left
        obtain ⟨m, _⟩ := segsV_mem z
        intro y
        rcases m with m | ⟨p, _, m⟩
        · have m : s = Option.some c := m
          have y : s = none := y
          rw [y] at m
          cases m
        · have m : s = Option.some p.1 := m
          have y : s = none := y
          rw [y] at m
          cases m
  · rw [e2] at hi
    rcases m1 with m | ⟨p, hp, m⟩
    · have m : s = none := m
      rw [m] at hi
      cases hi
    · have m : s = Option.some p.1 := m
      rw [m] at hi
      cases hi
      exact h.near p hp
  · rw [e3] at hi
    rcases m2 with m | ⟨p, hp, m⟩
    · have m : d = none := m
      rw [m] at hi
      cases hi
    · have m : d = Option.some p.1 := m
      rw [m] at hi
      cases hi
      exact h.near p hp
theorem five_at {q : Seg} {i : Int} (h0 : 0 ≤ i) (h1 : i < 5) (hok : SegOk q) : ∃ x, atI [V.str "0", .str "-", .str "A", .str "_", .str "bcdefghijklmn"] i = Option.some (.str x) ∧ (pieceS q ++ x).length ≤ 300 ∧ BadPc (pieceS q ++ x) := by
  have lp := piece_len hok
  have h : i = 0 ∨ i = 1 ∨ i = 2 ∨ i = 3 ∨ i = 4 := by omega
  rcases h with rfl | rfl | rfl | rfl | rfl
  · exact ⟨"0", rfl, by rw [len_app, show ("0" : Str).length = 1 from by decide +kernel]; omega, bad13a (c := 48) hok (by decide +kernel) (by omega) (by omega)⟩
  · exact ⟨"-", rfl, by rw [len_app, show ("-" : Str).length = 1 from by decide +kernel]; omega, bad13a (c := 45) hok (by decide +kernel) (by omega) (by omega)⟩
  · exact ⟨"A", rfl, by rw [len_app, show ("A" : Str).length = 1 from by decide +kernel]; omega, bad13a (c := 65) hok (by decide +kernel) (by omega) (by omega)⟩
  · exact ⟨"_", rfl, by rw [len_app, show ("_" : Str).length = 1 from by decide +kernel]; omega, bad13a (c := 95) hok (by decide +kernel) (by omega) (by omega)⟩
  · exact ⟨"bcdefghijklmn", rfl, by rw [len_app, show ("bcdefghijklmn" : Str).length = 13 from by decide +kernel]; omega, bad13b hok (by decide +kernel) (by decide +kernel)⟩
theorem pc9a {s : Option Int} {b : Int} {w : Str} (h : SegOk (s, Option.some b, w)) : PcOk (endS s ++ "..0" ++ endS (Option.some b) ++ " " ++ w) := by
  have l1 := end_len h.1
  have l2 := end_len h.2.1
  have l3 := h.2.2.2.1
  have lp := piece_len h
  have k1 : ("..0" : Str).length = 3 := by decide +kernel
  have k2 : ("0" : Str).length = 1 := by decide +kernel
  have k3 : ("  " : Str).length = 2 := by decide +kernel
  have k4 : (".. " : Str).length = 3 := by decide +kernel
  simp only [] at l1 l2 l3
  refine ⟨?_, .inl ?_⟩
  · simp only [endsS, len_app, len_dd, len_sp, k1, k2, k3, k4]
    omega
  · exact bad9a (q := (s, Option.some b, w)) h rfl
theorem pc9b {e : Option Int} {a : Int} {w : Str} (h : SegOk (Option.some a, e, w)) : PcOk ("0" ++ pieceS (Option.some a, e, w)) := by
  have l1 := end_len h.1
  have l2 := end_len h.2.1
  have l3 := h.2.2.2.1
  have lp := piece_len h
  have k1 : ("..0" : Str).length = 3 := by decide +kernel
  have k2 : ("0" : Str).length = 1 := by decide +kernel
  have k3 : ("  " : Str).length = 2 := by decide +kernel
  have k4 : (".. " : Str).length = 3 := by decide +kernel
  simp only [] at l1 l2 l3
  refine ⟨?_, .inl ?_⟩
  · simp only [endsS, len_app, len_dd, len_sp, k1, k2, k3, k4]
    omega
  · exact bad9b (q := (Option.some a, e, w)) h rfl
theorem pc10a {a b : Int} {w : Str} (h : SegOk (Option.some a, Option.some b, w)) (hl : SLt (Option.some a, Option.some b, w)) : PcOk (endS (Option.some b) ++ ".." ++ endS (Option.some a) ++ " " ++ w) := by
  have l1 := end_len h.1
  have l2 := end_len h.2.1
  have l3 := h.2.2.2.1
  have lp := piece_len h
  have k1 : ("..0" : Str).length = 3 := by decide +kernel
  have k2 : ("0" : Str).length = 1 := by decide +kernel
  have k3 : ("  " : Str).length = 2 := by decide +kernel
  have k4 : (".. " : Str).length = 3 := by decide +kernel
  simp only [] at l1 l2 l3
  refine ⟨?_, .inl ?_⟩
  · simp only [endsS, len_app, len_dd, len_sp, k1, k2, k3, k4]
    omega
  · exact bad10a (q := (Option.some a, Option.some b, w)) h hl rfl rfl
theorem pc10b {s e : Option Int} {w : Str} (h : SegOk (s, e, w)) : PcOk (w ++ " " ++ endsS s e) := by
  have l1 := end_len h.1
  have l2 := end_len h.2.1
  have l3 := h.2.2.2.1
  have lp := piece_len h
  have k1 : ("..0" : Str).length = 3 := by decide +kernel
  have k2 : ("0" : Str).length = 1 := by decide +kernel
  have k3 : ("  " : Str).length = 2 := by decide +kernel
  have k4 : (".. " : Str).length = 3 := by decide +kernel
  simp only [] at l1 l2 l3
  refine ⟨?_, .inl ?_⟩
  · simp only [endsS, len_app, len_dd, len_sp, k1, k2, k3, k4]
    omega
  · exact bad10b (q := (s, e, w)) h
theorem pc11 {s e : Option Int} {w : Str} (h : SegOk (s, e, w)) : PcOk (endsS s e ++ "  " ++ w) := by
  have l1 := end_len h.1
  have l2 := end_len h.2.1
  have l3 := h.2.2.2.1
  have lp := piece_len h
  have k1 : ("..0" : Str).length = 3 := by decide +kernel
  have k2 : ("0" : Str).length = 1 := by decide +kernel
  have k3 : ("  " : Str).length = 2 := by decide +kernel
  have k4 : (".. " : Str).length = 3 := by decide +kernel
  simp only [] at l1 l2 l3
  refine ⟨?_, .inl ?_⟩
  · simp only [endsS, len_app, len_dd, len_sp, k1, k2, k3, k4]
    omega
  · exact bad11 (q := (s, e, w)) h
theorem pc12 {s e : Option Int} {w : Str} (h : SegOk (s, e, w)) : PcOk (endsS s e) := by
  have l1 := end_len h.1
  have l2 := end_len h.2.1
  have l3 := h.2.2.2.1
  have lp := piece_len h
  have k1 : ("..0" : Str).length = 3 := by decide +kernel
  have k2 : ("0" : Str).length = 1 := by decide +kernel
  have k3 : ("  " : Str).length = 2 := by decide +kernel
  have k4 : (".. " : Str).length = 3 := by decide +kernel
  simp only [] at l1 l2 l3
  refine ⟨?_, .inl ?_⟩
  · simp only [endsS, len_app, len_dd, len_sp, k1, k2, k3, k4]
    omega
  · exact bad12 (q := (s, e, w)) h
theorem pc14 {s e : Option Int} {w : Str} (h : SegOk (s, e, w)) : PcOk (endsS s e ++ ".. " ++ w) := by
  have l1 := end_len h.1
  have l2 := end_len h.2.1
  have l3 := h.2.2.2.1
  have lp := piece_len h
  have k1 : ("..0" : Str).length = 3 := by decide +kernel
  have k2 : ("0" : Str).length = 1 := by decide +kernel
  have k3 : ("  " : Str).length = 2 := by decide +kernel
  have k4 : (".. " : Str).length = 3 := by decide +kernel
  simp only [] at l1 l2 l3
  refine ⟨?_, .inl ?_⟩
  · simp only [endsS, len_app, len_dd, len_sp, k1, k2, k3, k4]
    omega
  · exact bad14 (q := (s, e, w)) h
theorem adj_app {acc : List (Int × V)} {c : Int} {h : V} (a : Adj acc) (hl : ∀ p, acc.getLast? = some p → h ≠ p.2) : Adj (acc ++ [(c, h)]) := fun j p p' e e' => by
  by_cases hj : j + 1 < acc.length
  · rw [List.getElem?_append_left hj] at e'
    rw [List.getElem?_append_left (by omega)] at e
    exact a j p p' e e'
  · have hj2 : j + 1 = acc.length := by
      have := (List.getElem?_eq_some_iff.mp e').1
      rw [List.length_append, List.length_singleton] at this
      omega
    rw [List.getElem?_append_right (by omega), hj2, Nat.sub_self] at e'
    rw [List.getElem?_append_left (by omega)] at e
    have ep : p' = (c, h) := (Option.some.inj e').symm
    rw [ep]
    refine hl p ?_
    rw [List.getLast?_eq_getElem?, ← hj2]
    exact e
theorem ris_app {acc : List (Int × V)} {c : Int} {h : V} (a : Ris acc) (hl : ∀ p ∈ acc, p.1 < c) : Ris (acc ++ [(c, h)]) := List.pairwise_append.mpr ⟨a, List.pairwise_singleton _ _, fun p hp q hq => by
  rw [List.mem_singleton.mp hq]
  exact hl p hp⟩
theorem hv_app {v : V} {acc : List (Int × V)} {c : Int} {h : V} (a : AllHV v acc) (hh : HV h) : AllHV v (acc ++ [(c, h)]) := by
  show ∀ x ∈ holds v (acc ++ [(c, h)]), HV x
  rw [holds_app]
  intro x hx
  rcases List.mem_append.mp hx with hx | hx
  · exact a x hx
  · rw [List.mem_singleton.mp hx]; exact hh
theorem first_app {α : Type} {acc : List α} {x p : α} (h : (acc ++ [x])[0]? = some p) : (acc = [] ∧ p = x) ∨ acc[0]? = some p := by
  cases acc with
  | nil => exact .inl ⟨rfl, (Option.some.inj h).symm⟩
  | cons a r => exact .inr h
theorem Grow.start {place : Int} (h : -1000 ≤ place ∧ place ≤ 1001) : Grow 0 place [] :=
  ⟨fun x hx => by rw [List.mem_singleton.mp hx]; exact .inl rfl, List.Pairwise.nil, (fun _ h => nomatch h), (fun _ _ _ h => nomatch h), ⟨Nat.le_refl _, Nat.le_refl _⟩, (fun _ h => nomatch h), .inl rfl, ⟨h.1, by omega⟩, (fun _ h => nomatch h)⟩
/-- a value behind what stands -/
theorem Grow.val {i : Nat} {place : Int} {acc : List (Int × V)} {z : Str} (g : Grow i place acc) (hz : Word z) (hl : ∀ p, acc.getLast? = some p → (V.str z) ≠ p.2) : Grow (i + 1) (place + 4) (acc ++ [(place, .str z)]) := by
  have g1 := g.len
  have g2 := g.hp
  refine ⟨hv_app g.hv (.inr ⟨z, hz, rfl⟩), ris_app g.ris fun p hp => (g.lo p hp).2, fun p hp => ?_, adj_app g.adj hl, ?_, fun p hp hne => ?_, .inr ⟨acc, place, z, rfl⟩, by omega, fun p hp he => ?_⟩
  · rcases List.mem_append.mp hp with hp | hp
    · have := g.lo p hp
      omega
    · rw [List.mem_singleton.mp hp]
      show -1000 ≤ place ∧ place < place + 4
      omega
  · rw [List.length_append, List.length_singleton]
    omega
  · rw [List.length_append, List.length_singleton]
    rcases first_app hp with ⟨e, _⟩ | hp
    · rw [e]
      show 0 + 1 + 1 ≤ 2 * (i + 1)
      omega
    · have := g.few p hp hne
      omega
  · rw [List.length_append, List.length_singleton]
    rcases first_app hp with ⟨_, e⟩ | hp
    · rw [e] at he
      cases he
    · have := g.one p hp he
      omega
/-- a gap and a value -/
theorem Grow.gap {i : Nat} {place : Int} {acc : List (Int × V)} {z : Str} (g : Grow i place acc) (hz : Word z) : Grow (i + 1) (place + 3 + 4) ((acc ++ [(place, .non)]) ++ [(place + 3, .str z)]) := by
  have g1 := g.len
  have g2 := g.hp
  have a1 : ∀ p ∈ acc ++ [(place, V.non)], -1000 ≤ p.1 ∧ p.1 < place + 3 := fun p hp => by
    rcases List.mem_append.mp hp with hp | hp
    · have := g.lo p hp
      omega
    · rw [List.mem_singleton.mp hp]
      show -1000 ≤ place ∧ place < place + 3
      omega
  have hne : ∀ {c : Int} {x : V}, ∀ p, (acc ++ [(c, x)]).getLast? = some p → p = (c, x) := fun p e => by
    rw [List.getLast?_concat] at e
    exact (Option.some.inj e).symm
  have hln : ∀ p, acc.getLast? = some p → V.non ≠ p.2 := fun p e => by
    rcases g.last with rfl | ⟨r, c, z, rfl⟩
    · cases e
    · rw [List.getLast?_concat] at e
      rw [← Option.some.inj e]
      exact fun h => nomatch h
  have hi : acc = [] ∨ 1 ≤ i := by
    by_cases h : i = 0
    · left
      rw [h] at g1
      exact List.eq_nil_of_length_eq_zero (by omega)
    · right; omega
  refine ⟨hv_app (hv_app g.hv (.inl rfl)) (.inr ⟨z, hz, rfl⟩), ris_app (ris_app g.ris fun p hp => (g.lo p hp).2) fun p hp => (a1 p hp).2, fun p hp => ?_, adj_app (adj_app g.adj hln) (fun p e => by rw [hne p e]; exact fun h => nomatch h), ?_, fun p hp hne => ?_, .inr ⟨_, place + 3, z, rfl⟩, by omega, fun p hp he => ?_⟩
  · rcases List.mem_append.mp hp with hp | hp
    · have := a1 p hp
      omega
    · rw [List.mem_singleton.mp hp]
      show -1000 ≤ place + 3 ∧ place + 3 < place + 3 + 4
      omega
  · rw [List.length_append, List.length_append, List.length_singleton, List.length_singleton]
    omega
  · rw [List.length_append, List.length_append, List.length_singleton, List.length_singleton]
    rcases first_app hp with ⟨e, _⟩ | hp
    · exact absurd e (by simp)
    · rcases first_app hp with ⟨_, e⟩ | hp
      · rw [e] at hne
        exact absurd rfl hne
      · have := g.few p hp hne
        omega
  · rw [List.length_append, List.length_append, List.length_singleton, List.length_singleton]
    omega
theorem Grow.done {i : Nat} {place : Int} {acc : List (Int × V)} (g : Grow i place acc) (h1 : 1 ≤ i) (h4 : i ≤ 4) : Pieces (acc ++ [(place, .non)]) := by
  have g1 := g.len
  have g2 := g.hp
  have hln : ∀ p, acc.getLast? = some p → V.non ≠ p.2 := fun p e => by
    rcases g.last with rfl | ⟨r, c, z, rfl⟩
    · cases e
    · rw [List.getLast?_concat] at e
      rw [← Option.some.inj e]
      exact fun h => nomatch h
  have hne : acc ≠ [] := fun e => by rw [e] at g1; simp at g1; omega
  refine ⟨hv_app g.hv (.inl rfl), ris_app g.ris fun p hp => (g.lo p hp).2, fun p hp => ?_, adj_app g.adj hln, ?_, fun p hp hn => ?_, fun p hp he => ?_⟩
  · rcases List.mem_append.mp hp with hp | hp
    · have := g.lo p hp
      show p.1.natAbs < 100000000000000000000
      omega
    · rw [List.mem_singleton.mp hp]
      show place.natAbs < 100000000000000000000
      omega
  · rw [List.length_append, List.length_singleton]
    omega
  · rw [List.length_append, List.length_singleton]
    rcases first_app hp with ⟨e, _⟩ | hp
    · exact absurd e hne
    · have := g.few p hp hn
      omega
  · rw [List.length_append, List.length_singleton]
    rcases first_app hp with ⟨e, _⟩ | hp
    · exact absurd e hne
    · have := g.one p hp he
      omega
/-- the two trims and the one form -/
theorem Pieces.plain {ps : List (Int × V)} (h : Pieces ps) : ∃ p ∈ ps, p.2 ≠ .non := by
  obtain ⟨p, hp⟩ : ∃ p, ps[0]? = some p := ⟨_, List.getElem?_eq_getElem (by have := h.len; omega)⟩
  by_cases e : p.2 = .non
  · obtain ⟨p', hp'⟩ : ∃ p, ps[1]? = some p := ⟨_, List.getElem?_eq_getElem (by have := h.len; omega)⟩
    exact ⟨p', List.mem_of_getElem? hp', by have := h.adj 0 p p' hp hp'; rw [e] at this; exact this⟩
  · exact ⟨p, List.mem_of_getElem? hp, e⟩
theorem dropLast_at {α : Type} {xs : List α} {i : Nat} (h : i + 1 < xs.length) : xs.dropLast[i]? = xs[i]? := by
  rw [List.dropLast_eq_take, List.getElem?_take_of_lt (by omega)]
theorem Pieces.cut {ps : List (Int × V)} (h : Pieces ps) : ∃ p ∈ ps.dropLast, p.2 ≠ .non := by
  have hl := h.len
  obtain ⟨p, hp⟩ : ∃ p, ps[0]? = some p := ⟨_, List.getElem?_eq_getElem (by omega)⟩
  by_cases e : p.2 = .non
  · have h3 := h.one p hp e
    obtain ⟨p', hp'⟩ : ∃ p, ps[1]? = some p := ⟨_, List.getElem?_eq_getElem (by omega)⟩
    exact ⟨p', List.mem_of_getElem? (i := 1) (by rw [dropLast_at (by omega)]; exact hp'), by have := h.adj 0 p p' hp hp'; rw [e] at this; exact this⟩
  · exact ⟨p, List.mem_of_getElem? (i := 0) (by rw [dropLast_at (by omega)]; exact hp), e⟩
theorem slim_len {ps : List (Int × V)} {v : V} : (slim v ps).length ≤ ps.length := slim_sub.length_le
/-- a list that began as pieces, maybe without its last -/
structure Cutd (qs : List (Int × V)) : Prop where
  hv : AllHV .non qs
  ris : Ris qs
  near : ∀ p ∈ qs, p.1.natAbs < 10 ^ 20
  adj : Adj qs
  len : qs.length ≤ 9
  few : ∀ p, qs[0]? = some p → p.2 ≠ .non → qs.length ≤ 8
  any : ∃ p ∈ qs, p.2 ≠ .non
theorem Pieces.cutd {ps : List (Int × V)} (h : Pieces ps) : Cutd ps := ⟨h.hv, h.ris, h.near, h.adj, h.len.2, h.few, h.plain⟩
theorem Pieces.cutd' {ps : List (Int × V)} (h : Pieces ps) : Cutd ps.dropLast := by
  have hl := h.len
  refine ⟨fun x hx => ?_, List.Pairwise.sublist (List.dropLast_sublist _) h.ris, fun p hp => h.near p ((List.dropLast_sublist _).subset hp), fun j p p' e e' => ?_, ?_, fun p e hn => ?_, h.cut⟩
  · rcases List.mem_cons.mp hx with rfl | hx
    · exact .inl rfl
    · obtain ⟨p, hp, rfl⟩ := List.mem_map.mp hx
      exact h.hv _ (List.mem_cons_of_mem _ (List.mem_map.mpr ⟨p, (List.dropLast_sublist _).subset hp, rfl⟩))
  · have hj := (List.getElem?_eq_some_iff.mp e').1
    rw [List.length_dropLast] at hj
    rw [dropLast_at (by omega)] at e e'
    exact h.adj j p p' e e'
  · rw [List.length_dropLast]; omega
  · rw [List.length_dropLast]; omega
theorem slim_first {p : Int × V} {r : List (Int × V)} {v : V} (h : p.2 = v) : slim v (p :: r) = slim v r := by
  obtain ⟨c, g⟩ := p
  show (if g = v then slim v r else (c, g) :: slim g r) = slim v r
  exact if_pos h
theorem Cutd.line {qs : List (Int × V)} (h : Cutd qs) : LineB .non (slim .non qs) := by
  refine ⟨slim_hv h.hv, List.Pairwise.sublist slim_sub h.ris, slim_nrm, fun p hp => Nat.lt_of_lt_of_le (h.near p (slim_sub.subset hp)) (by decide), slim_ne h.any, ?_⟩
  have hl := h.len
  cases qs with
  | nil => exact Nat.zero_le _
  | cons p r =>
    by_cases e : p.2 = .non
    · rw [slim_first e]
      have := slim_len (ps := r) (v := V.non)
      rw [List.length_cons] at hl
      omega
    · have h1 := h.few p rfl e
      have := slim_len (ps := p :: r) (v := V.non)
      omega
/-- the first value at the start -/
theorem Cutd.tail {p : Int × V} {r : List (Int × V)} (h : Cutd (p :: r)) (hp : p.2 ≠ .non) (hr : r ≠ []) : AllHV p.2 r ∧ LineB p.2 (slim p.2 r) := by
  have a : AllHV p.2 r := fun x hx => h.hv x (List.mem_cons_of_mem _ hx)
  refine ⟨a, slim_hv a, List.Pairwise.sublist slim_sub (List.pairwise_cons.mp h.ris).2, slim_nrm, fun q hq => Nat.lt_of_lt_of_le (h.near q (List.mem_cons_of_mem _ (slim_sub.subset hq))) (by decide), slim_ne ?_, ?_⟩
  · cases r with
    | nil => exact absurd rfl hr
    | cons p' r' => exact ⟨p', List.mem_cons_self, h.adj 0 p p' rfl rfl⟩
  · have h1 := h.few p rfl hp
    have := slim_len (ps := r) (v := p.2)
    rw [List.length_cons] at h1
    omega
theorem app_nil (z : Str) : z ++ "" = z := TL.ext_tl (by
  rw [TL.tl_append, show TL.tl ("" : Str) = [] from by decide +kernel, List.append_nil])
theorem cutTake1 {xs : List V} : cutV xs none (some 1) = xs.take 1 := by
  unfold cutV
  rw [show HT.sIx xs.length xs.length (some 1) = min 1 xs.length from HT.sIx_nat xs.length xs.length 1, HT.sIx_none]
  cases xs with
  | nil => rfl
  | cons x r => simp
theorem cutS_tl0 (z : Str) (k : Nat) : TL.tl (cutS z none (some (k : Int))) = (TL.tl z).take k := by
  have e : z.length = (TL.tl z).length := len_tl z
  show (((z.cps.toList.drop (HT.sIx z.length 0 none)).take (HT.sIx z.length z.length (some (k : Int)) - HT.sIx z.length 0 none)).toArray).toList = z.cps.toList.take k
  rw [HT.sIx_none, HT.sIx_nat, List.drop_zero, Nat.sub_zero, e]
  show (z.cps.toList.take (min k z.cps.toList.length)) = z.cps.toList.take k
  rcases Nat.le_total k z.cps.toList.length with h | h
  · rw [Nat.min_eq_left h]
  · rw [Nat.min_eq_right h, List.take_of_length_le (Nat.le_refl _), List.take_of_length_le h]
theorem cutS_tl1 (z : Str) (k : Nat) : TL.tl (cutS z (some (k : Int)) none) = (TL.tl z).drop k := by
  have e : z.length = (TL.tl z).length := len_tl z
  show (((z.cps.toList.drop (HT.sIx z.length 0 (some (k : Int)))).take (HT.sIx z.length z.length none - HT.sIx z.length 0 (some (k : Int)))).toArray).toList = z.cps.toList.drop k
  rw [HT.sIx_none, HT.sIx_nat, e]
  show (z.cps.toList.drop (min k z.cps.toList.length)).take (z.cps.toList.length - min k z.cps.toList.length) = z.cps.toList.drop k
  rcases Nat.le_total k z.cps.toList.length with h | h
  · rw [Nat.min_eq_left h, List.take_of_length_le (by rw [List.length_drop]; exact Nat.le_refl _)]
  · rw [Nat.min_eq_right h, Nat.sub_self, List.take_zero, List.drop_eq_nil_of_le h]
theorem sum_le {m : Nat} : ∀ {P : List Str}, (∀ p ∈ P, p.length ≤ m) → (P.map (·.length)).sum ≤ m * P.length
  | [], _ => Nat.zero_le _
  | p :: r, h => by
    have h1 := h p List.mem_cons_self
    have h2 := sum_le (m := m) (P := r) fun x hx => h x (List.mem_cons_of_mem _ hx)
    rw [List.map_cons, List.sum_cons, List.length_cons, Nat.mul_succ]
    omega
theorem cutInit {xs : List V} : cutV xs none (some (-1)) = xs.dropLast := by
  unfold cutV
  rw [HT.sIx_none, List.drop_zero, Nat.sub_zero, List.dropLast_eq_take]
  have e : HT.sIx xs.length xs.length (some (-1)) = xs.length - 1 := by
    show (if (-1 : Int) < 0 then ((-1 : Int) + (xs.length : Int)).toNat else min (-1 : Int).toNat xs.length) = _
    rw [if_pos (by decide)]
    omega
  rw [e]
theorem map_dropLast2 {ps : List (Int × V)} : ((cuts ps).map V.int).dropLast = (cuts ps.dropLast).map V.int := by
  show ((ps.map _).map _).dropLast = (ps.dropLast.map _).map _
  rw [List.dropLast_eq_take, List.dropLast_eq_take, List.length_map, List.length_map, ← List.map_take, ← List.map_take]
theorem holds_dropLast {v : V} {ps : List (Int × V)} (h : 1 ≤ ps.length) : (holds v ps).dropLast = holds v ps.dropLast := by
  cases ps with
  | nil => simp at h
  | cons p r =>
    show (v :: p.2 :: r.map _).dropLast = v :: (p :: r).dropLast.map _
    cases r with
    | nil => rfl
    | cons p' r' =>
      show v :: ((p :: p' :: r').map Prod.snd).dropLast = v :: (p :: p' :: r').dropLast.map Prod.snd
      rw [List.map_dropLast]
end Cut
/-! defs that a def makes and hands out: called behind its end, one with a cell of that def's frame -/
namespace Cut
open PySem PySem.Spec PyProof.Rows L2 Wk LamX NdefX
/-! ### a cell that is tracked -/
/-- the cell at c holds the object at l -/
def CellO (c l : Addr) : HO := .ext fun h => h.IsCell c (some (.ref l))
theorem cellO_own {c l x : Addr} : CellO c l ≠ .own x := fun z => by
  unfold CellO at z
  cases z
theorem cellO_tup {c l : Addr} {xs : List V} : CellO c l ≠ .tup xs := fun z => by
  unfold CellO at z
  cases z
theorem cellO_lst {c l : Addr} {xs : List V} : CellO c l ≠ .lst xs := fun z => by
  unfold CellO at z
  cases z
theorem cellO_frz {c l : Addr} {o : Obj} {u : HO} : CellO c l ≠ .frz o u := fun z => by
  unfold CellO at z
  cases z
theorem cellO_tbl {c l : Addr} {ps : Array Value} : CellO c l ≠ .tbl ps := fun z => by
  unfold CellO at z
  cases z
section
variable {P : Program} {w : World} {K : PySem.W.Frag} {mg : Str → Option Value} {base : Heap} {A : Around} {outer : List Env} {s : Shared} {H : Hp} {h : Heap} {c l : Addr}
theorem cellO_at (hok : HOk P w H h) (e : H c = some (CellO c l)) : h.IsCell c (some (.ref l)) := by
  obtain ⟨z, _, _⟩ := hok c _ e
  exact z
theorem cellO_ok (hi : h.IsCell c (some (.ref l))) : ObjOk P w H h c (CellO c l) :=
  ⟨hi, (let ⟨o, ho, _⟩ := hi; ⟨o, ho⟩), fun h1 h2 ⟨o, ho, hd⟩ st => ⟨o, st o ho, hd⟩⟩
theorem hok_add (hok : HOk P w H h) (n : H c = Option.none) (hi : h.IsCell c (some (.ref l))) : HOk P w (upd H c (CellO c l)) h := fun b o e => by
  by_cases hb : b = c
  · subst hb
    rw [upd_same] at e
    cases e
    exact cellO_ok hi
  · rw [upd_ne hb] at e
    exact (hok b o e).stay (fun _ _ _ q => q) (fun d q => by rw [upd_ne (ne_of_none q n)]; exact q) fun d xs q => by rw [upd_ne (ne_of_none q n)]; exact q
/-- the heap without what stands at c -/
def drp (H : Hp) (c : Addr) : Hp := fun b => if b = c then Option.none else H b
theorem drp_same : drp H c c = Option.none := if_pos rfl
theorem drp_ne {b : Addr} (h : b ≠ c) : drp H c b = H b := if_neg h
theorem drp_back {o : HO} (e : H c = some o) : upd (drp H c) c o = H := by
  funext b
  by_cases hb : b = c
  · rw [hb, upd_same, e]
  · rw [upd_ne hb, drp_ne hb]
theorem env_drop (e0 : Env0 P w K mg base A outer s H) (hc : H c = some (CellO c l)) : Env0 P w K mg base A outer s (drp H c) := by
  have no : ∀ {b : Addr}, H b = Option.none → drp H c b = Option.none := fun {b} n => by
    by_cases hb : b = c
    · rw [hb, drp_same]
    · rw [drp_ne hb]; exact n
  refine ⟨e0.frames, e0.mod, fun b o e => ⟨(e0.bs b o e).1, no (e0.bs b o e).2⟩, e0.bsz, e0.funs, fun b hb => no (e0.frf b hb), fun b o e => ?_, e0.bare⟩
  have hb : b ≠ c := fun z => by
    rw [z, drp_same] at e
    cases e
  rw [drp_ne hb] at e
  refine (e0.hok b o e).stay (fun _ _ _ q => q) (fun d q => ?_) fun d xs q => ?_
  · have hd : d ≠ c := fun z => by
      rw [z, hc] at q
      exact cellO_own (Option.some.inj q)
    rw [drp_ne hd]
    exact q
  · have hd : d ≠ c := fun z => by
      rw [z, hc] at q
      exact cellO_tup (Option.some.inj q)
    rw [drp_ne hd]
    exact q
theorem ce_back {Q : VK} {u : Value} {s' : Shared} (hok : HOk P w H s.heap) (hc : H c = some (CellO c l)) (h : CE outer P w (drp H c) s (fun v H' => Q v (upd H' c (CellO c l))) u s') : CE outer P w H s Q u s' := by
  obtain ⟨v, H', os, bare, un, hok', rv, q⟩ := h
  obtain ⟨o, ho, hd⟩ := cellO_at hok hc
  have ne : ∀ {b : Addr} {u : HO}, H b = some u → u ≠ CellO c l → b ≠ c := fun {b u} e n z => by
    rw [z, hc] at e
    exact n (Option.some.inj e).symm
  have nn : ∀ {b : Addr}, H b = Option.none → b ≠ c := fun {b} e z => by
    rw [z, hc] at e
    cases e
  have n' : H' c = Option.none := un.free c o ho drp_same (by simp)
  have hi : s'.heap.IsCell c (some (.ref l)) := by
    obtain ⟨sl, e⟩ := un.any ho drp_same (by simp)
    exact ⟨_, e, hd⟩
  refine ⟨v, upd H' c (CellO c l), os, bare, ⟨fun b o e n hb hx => un.keep b o e (by rw [drp_ne (nn n)]; exact n) hb hx, fun b o e n hb hx => un.slot b o e (by rw [drp_ne (nn n)]; exact n) hb hx, fun b o e n hx => ?_, un.there, fun b xs e => ?_, fun b o u e => ?_, fun b ps e => ?_⟩, hok_add hok' n' hi, rv, q⟩
  · rw [upd_ne (nn n)]
    exact un.free b o e (by rw [drp_ne (nn n)]; exact n) hx
  · have hb := ne e fun z => cellO_tup z.symm
    rw [upd_ne hb]
    exact un.tups b xs (by rw [drp_ne hb]; exact e)
  · have hb := ne e fun z => cellO_frz z.symm
    rw [upd_ne hb]
    exact un.frzs b o u (by rw [drp_ne hb]; exact e)
  · have hb := ne e fun z => cellO_tbl z.symm
    rw [upd_ne hb]
    exact un.tbls b ps (by rw [drp_ne hb]; exact e)
end
/-! ### ways -/
def overV (x y : V) : V := if x = .non then y else x
def bothV (x y : V) : V := if x = y then x else .non
def lackV (x y : V) : V := if x = .non then y else .non
def wayV (z : V) : Nat → V → V → V
  | 0 => overV
  | 1 => bothV
  | 2 => lackV
  | _ => fun _ _ => z
theorem way_hv {z : V} (hz : HV z) {n : Nat} {x y : V} (hx : HV x) (hy : HV y) : HV (wayV z n x y) := by
  match n with
  | 0 =>
    show HV (if x = .non then y else x)
    split
    · exact hy
    · exact hx
  | 1 =>
    show HV (if x = y then x else .non)
    split
    · exact hx
    · exact .inl rfl
  | 2 =>
    show HV (if x = .non then y else .non)
    split
    · exact hy
    · exact .inl rfl
  | n + 3 => exact hz
def spWay (wf : V → V → V) : Sp := fun vs H Q _ => ∃ x y, vs = [x, y] ∧ HV x ∧ HV y ∧ Q (wf x y) H
def spAlw (K : PySem.W.Frag) : List (Option V) → Sp := fun ws vs H Q _ => ∃ l xs z x y, ws = [some (.ref l)] ∧ vs = [x, y] ∧ SqL K H l xs ∧ atI xs 1 = some z ∧ Q z H
/-- the object at f is a def that answers as wf says -/
def WayAt (P : Program) (w : World) (K : PySem.W.Frag) (mg : Str → Option Value) (base : Heap) (k : Nat) (wf : V → V → V) (f : Addr) (H : Hp) : Prop :=
  ∃ (F : NF) (ps : List Str), H f = some (FnO f F) ∧ H F.c = some (CodeO F.c F.qual) ∧
    ((F.cl = [] ∧ NOk P w K mg base CX0 k f F ps [] (fun _ => spWay wf)) ∨
      ∃ n c l xs z, F.cl = [(n, c)] ∧ H c = some (CellO c l) ∧ SqL K H l xs ∧ atI xs 1 = some z ∧ (∀ x y, wf x y = z) ∧ NOk P w K mg base CX0 k f F ps [n] (spAlw K))
theorem lookup1 {n y : Str} {c c' : Addr} (e : List.lookup y [(n, c)] = some c') : y = n ∧ c' = c := by
  rw [List.lookup_cons] at e
  cases h : y == n with
  | true =>
    rw [h] at e
    exact ⟨beq_iff_eq.mp h, (Option.some.inj e).symm⟩
  | false =>
    rw [h] at e
    cases e
theorem lookup1' {n : Str} {c : Addr} : List.lookup n [(n, c)] = some c := by
  rw [List.lookup_cons, beq_self_eq_true]
section
variable {P : Program} {w : World} {K : PySem.W.Frag} {mg : Str → Option Value} {base : Heap} {A : Around} {outer : List Env} {s : Shared} {H H' : Hp} {k : Nat} {wf : V → V → V} {f : Addr}
theorem WayAt.same (W : WayAt P w K mg base k wf f H) (e : Same H H') : WayAt P w K mg base k wf f H' := by
  obtain ⟨F, ps, h1, h2, h3⟩ := W
  refine ⟨F, ps, e _ _ h1, e _ _ h2, ?_⟩
  rcases h3 with h | ⟨n, c, l, xs, z, a1, a2, a3, a4⟩
  · exact .inl h
  · exact .inr ⟨n, c, l, xs, z, a1, e _ _ a2, a3.imp (fun q => q.imp (fun q => e _ _ q) fun ⟨o, q⟩ => ⟨o, e _ _ q⟩) id, a4⟩
theorem WayAt.run (W : WayAt P w K mg base k wf f H) (hr : Room k A) (e0 : Env0 P w K mg base A outer s H) {us : List Value} {x y : V} {Q : VK} {E : XK} (r : Vals [x, y] us) (hx : HV x) (hy : HV y) (q : Q (wf x y) H) :
    codeAny (model P w) A (.call (.ref f) ⟨us, []⟩) (CR CX0 outer P w H s Q E) s := by
  obtain ⟨F, ps, h1, h2, h3⟩ := W
  rcases h3 with ⟨hcl, o⟩ | ⟨n, c, l, xs, z, hcl, hc, hl, hz, hw, o⟩
  · refine o.run A outer s H us [x, y] [] Q E hr e0 h1 h2 ?_ r ⟨x, y, rfl, hx, hy, q⟩
    rw [hcl]
    exact ⟨rfl, (fun _ _ e => nomatch e), (fun _ _ _ e => nomatch e), fun i y e => by simp at e⟩
  · obtain ⟨od, sl, doc, pm, ctv, ho⟩ := fnO_at e0.hok h1
    obtain ⟨oc, vs, t, co, cd, _⟩ := show ∃ (oc : Obj) (vs : Array Value) (t : Tok), s.heap.get? F.c = some oc ∧ oc.data = .fields vs ∧ vs[1]? = some (.str F.qual t) from by
      obtain ⟨z, _, _⟩ := e0.hok _ _ h2
      exact z
    have hi := cellO_at e0.hok hc
    have nf : f ≠ c := fun e => by
      obtain ⟨o', ho', hd'⟩ := hi
      rw [← e, ho] at ho'
      cases ho'
      cases hd'
    have nc : F.c ≠ c := fun e => by
      obtain ⟨o', ho', hd'⟩ := hi
      rw [← e, co] at ho'
      cases ho'
      rw [cd] at hd'
      cases hd'
    have nl : SqL K (drp H c) l xs := by
      have ne : ∀ {o : HO}, H l = some o → (∀ xs, o ≠ .lst xs → False) ∨ True → l ≠ c ∨ o = CellO c l := fun _ _ => by
        by_cases e : l = c
        · right
          rename_i o e1 _
          subst e
          rw [hc] at e1
          exact (Option.some.inj e1).symm
        · exact .inl e
      rcases hl with (e | ⟨o, e⟩) | e
      · have hne : l ≠ c := fun z => by
          rw [z, hc] at e
          exact cellO_lst (Option.some.inj e)
        exact .inl (.inl (by rw [drp_ne hne]; exact e))
      · have hne : l ≠ c := fun z => by
          rw [z, hc] at e
          exact cellO_frz (Option.some.inj e)
        exact .inl (.inr ⟨o, by rw [drp_ne hne]; exact e⟩)
      · exact .inr e
    refine codeAny_mono (o.run A outer s (drp H c) us [x, y] [some (.ref l)] (fun v H' => Q v (upd H' c (CellO c l))) E hr (env_drop e0 hc) (by rw [drp_ne nf]; exact h1) (by rw [drp_ne nc]; exact h2) ?_ r ⟨l, xs, z, x, y, rfl, rfl, nl, hz, ?_⟩) fun r s' hq => ?_
    · rw [hcl]
      refine ⟨rfl, fun y a e => ?_, fun x y a e1 e2 => ?_, fun i y e => ?_⟩
      · rw [(lookup1 e).2]
        exact ⟨drp_same, _, hi⟩
      · rw [(lookup1 e1).1, (lookup1 e2).1]
      · cases i with
        | zero =>
          have e : n = y := Option.some.inj e
          rw [← e]
          refine ⟨c, lookup1', fun v ev => ⟨.ref l, ?_, hi⟩⟩
          have ev : some (V.ref l) = some v := Option.some.inj ev
          rw [← Option.some.inj ev] <;> rfl
        | succ i => simp at e
    · show Q z (upd (drp H c) c (CellO c l))
      rw [drp_back hc, ← hw x y]
      exact q
    · cases r with
      | error e => exact hq
      | ok fl =>
        cases fl with
        | ret u => exact ce_back e0.hok hc hq
        | next => exact hq
        | brk => exact hq
        | cont => exact hq
end
/-- f(x, y), f a name that holds a way -/
def tCallW (P : Program) (w : World) (K : PySem.W.Frag) (mg : Str → Option Value) (base : Heap) (k i : Nat) (t : TA) : TE := fun σ H Q => ∃ f wf, σ[i]? = some (some (.ref f)) ∧ WayAt P w K mg base k wf f H ∧
  t σ H fun vs H1 => ∃ x y, vs = [x, y] ∧ WayAt P w K mg base k wf f H1 ∧ HV x ∧ HV y ∧ Q (wf x y) H1
theorem WayAt.fn {P : Program} {w : World} {K : PySem.W.Frag} {mg : Str → Option Value} {base : Heap} {k : Nat} {wf : V → V → V} {f : Addr} {X : Cx} {pins : List (Addr × Obj)} {σ : L2.St} {H : Hp} {s : Shared} (W : WayAt P w K mg base k wf f H) (I : Inv X pins σ H s) : PySem.W.FnAt f s.heap := by
  obtain ⟨F, _, h1, _⟩ := W
  exact fnAt_of I h1
section
variable {X : Cx} {P : Program} {w : World} {K : PySem.W.Frag} {mg : Str → Option Value} {base : Heap} {k i : Nat} {x : Str} {p pos : Pos} {e : Expr} {es : List Expr} {t : TA}
theorem pe_callW (hP : X.prog = P) (hw : X.w = w) (hK : X.K = K) (hm : X.mg = mg) (hb : X.base = base) (hr : Room k X.A) (hN : X.N[i]? = some x) (hv : Vis X.env.scope x) (ha : PA X (e :: es) t)
    (hd : (x == ("__debug__" : Str)) = false := by decide) (hcd : (x == ("__classdict__" : Str)) = false := by decide)
    (he : starEach (e :: es) X.env = (false, eval e X.env) :: starEach es X.env := by rfl) (hpl : (backTo pos (starEach es X.env)).any (·.1) = false := by rfl) :
    PE X (.Call (.Name x p) (e :: es) [] pos) (tCallW P w K mg base k i t) := by
  subst hP hw hK hm hb
  refine ⟨fun pins s σ H Q I h => ?_⟩
  obtain ⟨f, wf, hs, W, ht⟩ := h
  refine wpAny_Call_Name_kw (thn ((pe_var (pos := p) hN hv hd hcd).run pins s σ H (fun v H1 => v = .ref f ∧ H1 = H) I ⟨.ref f, hs, rfl, rfl⟩) fun u s1 ⟨v, H1, I1, r1, q1⟩ => ?_)
  obtain ⟨ev, eH⟩ := q1
  subst ev
  rw [eH] at I1
  obtain rfl : u = Value.ref f := r1
  refine PySem.W.callWith_F (first := []) (W.fn I1) (thn (ha.run pos pins s1 σ H _ I1 ht) fun us s2 ⟨vs, H2, I2, r, x, y, ev, W2, hx, hy, q⟩ => ⟨W2.fn I2, ?_⟩) he hpl
  show wpAny _ _ (call (.ref f) us) _ _ _
  subst ev
  refine wpAny_call (codeAny_mono (W2.run hr I2.env0 (E := fun _ _ _ => False) r hx hy q) fun r s' hq => ?_)
  cases r with
  | error e => exact False.elim hq
  | ok fl =>
    cases fl with
    | ret u => exact I2.after hq
    | next => exact False.elim hq
    | brk => exact False.elim hq
    | cont => exact False.elim hq
theorem g_callW {σ : L2.St} {H : Hp} {Q : VK} {f : Addr} {wf : V → V → V} (hs : σ[i]? = some (some (.ref f))) (W : WayAt P w K mg base k wf f H) (h : t σ H fun vs H1 => ∃ x y, vs = [x, y] ∧ WayAt P w K mg base k wf f H1 ∧ HV x ∧ HV y ∧ Q (wf x y) H1) : tCallW P w K mg base k i t σ H Q := ⟨f, wf, hs, W, h⟩
end
/-! ### a body that ends with a return, the names known there -/
abbrev TR := (L2.St → V → Hp → Prop) → L2.St → Hp → Prop
structure PSr (X : Cx) (st : List Stmt) (t : TR) : Prop where
  run : ∀ (pins : List (Addr × Obj)) (s : Shared) (σ : L2.St) (H : Hp) (R : L2.St → V → Hp → Prop), Inv X pins σ H s → t R σ H →
    wpAny (model X.prog X.w) X.A (execs st X.env) (fun fl s' => ∃ u v σ' H', fl = .ret u ∧ Inv X pins σ' H' s' ∧ L2.RelV v u ∧ R σ' v H') X.xe s
def rSeq (t : TS) (u : TR) : TR := fun R σ H => t ⟨fun σ' H' => u R σ' H', fun _ _ => False, fun _ _ => False, fun _ _ => False⟩ σ H
def rRet (te : TE) : TR := fun R σ H => te σ H (R σ)
section
variable {X : Cx} {st : Stmt} {rest : List Stmt} {t : TS} {u : TR} {e : Expr} {te : TE} {pos : Pos}
theorem psr_cons (h1 : PS X st t) (h2 : PSr X rest u) : PSr X (st :: rest) (rSeq t u) := by
  refine ⟨fun pins s σ H R I h => ?_⟩
  refine wpAny_execs_cons (thn (h1.run pins s σ H _ I h) fun f s1 q => ?_)
  cases f with
  | next =>
    obtain ⟨σ', H', I', q⟩ := q
    exact h2.run pins s1 σ' H' R I' q
  | ret v =>
    obtain ⟨_, _, _, _, _, q⟩ := q
    exact False.elim q
  | brk =>
    obtain ⟨_, _, _, q⟩ := q
    exact False.elim q
  | cont =>
    obtain ⟨_, _, _, q⟩ := q
    exact False.elim q
theorem psr_ret (he : PE X e te) : PSr X [.Return (some e) pos] (rRet te) := by
  refine ⟨fun pins s σ H R I h => ?_⟩
  refine wpAny_execs_cons (wpAny_Return_some (thn (he.run pins s σ H _ I h) fun v s1 ⟨x, H1, I1, r1, q1⟩ => ?_))
  exact ⟨v, x, σ, H1, rfl, I1, r1, q1⟩
end
/-- the def x of the top, its code object at c -/
def DefAtC (K : PySem.W.Frag) (mg : Str → Option Value) (x : Str) (st : Stmt) (c : Addr) : Prop := ∃ (f : Addr) (oc : Value) (od : Option Addr) (kV doc pm : Value) (an : Option Addr) (ct : Value) (osl : Array (Option Value)),
  K.lookup f = some ⟨oc, od, .func (PySem.W.fnOf x x (defArgs st) (defBody st) (defScope st) .none kV doc pm an (.ref c) ct), osl⟩ ∧ PySem.W.codeIn K (.ref c) x = true ∧ PySem.W.keepIn K (.ref f) = true ∧ mg x = some (.ref f)
theorem defAtC_mk {K : PySem.W.Frag} {mg : Str → Option Value} {x : Str} {st : Stmt} {h : Heap} {c : Addr} (X : K.In h) (G : h.Ns mainGlobals mg) {f : Addr} {oc : Value} {od an : Option Addr} {osl : Array (Option Value)} {kV doc pm ct : Value}
    (a : PySem.W.nsIn K mainGlobals x = some (some (.ref f))) (l : K.lookup f = some ⟨oc, od, .func (PySem.W.fnOf x x (defArgs st) (defBody st) (defScope st) .none kV doc pm an (.ref c) ct), osl⟩)
    (cc : PySem.W.codeIn K (.ref c) x = true) (k : PySem.W.keepIn K (.ref f) = true) : DefAtC K mg x st c := ⟨f, oc, od, kV, doc, pm, an, ct, osl, l, cc, k, PySem.W.mg_of X G a⟩
/-- a def that hands out what may hold the cell of its name n: the cell is tracked behind its end -/
theorem DefAtC.okW {P : Program} {w : World} {K : PySem.W.Frag} {mg : Str → Option Value} {base : Heap} {x : Str} {st : Stmt} {c : Addr} {N ps : List Str} {k i : Nat} {n : Str} {sp : Sp} (D : DefAtC K mg x st c) (S : FnScope N ps (defScope st)) (hb : HB x x st ps) (hN : N[i]? = some n)
    (hk : (defScope st).names.lookup n = some .cell) (len : ∀ vs H Q E, sp vs H Q E → vs.length = ps.length)
    (body : ∀ (f : Addr) (A : Around) (outer : List Env) (s : Shared) (H : Hp) (vs : List V) (Q : VK) (E : XK), Room k (A.deeper (envOfC x (defScope st) s.heap.objs.size f (.ref c))) → sp vs H Q E →
      ∃ t, PSr (cxOf CX0 P w K mg base N x (defScope st) f (.ref c) A outer s H E) (defBody st) t ∧
        t (fun σ' v H' => ∃ l, σ'[i]? = some (some (.ref l)) ∧ ∀ a, (cellsFrom (s.heap.objs.size + 1) (defScope st).names []).lookup n = some a → H' a = Option.none → Q v (upd H' a (CellO a l))) (start N vs) H) : Rd P w K mg base CX0 (k + 1) x ps sp := by
  obtain ⟨f, oc, od, kV, doc, pm, an, ct, osl, lk, hcd, kp, g⟩ := D
  refine ⟨f, _, ⟨len, fun A outer s H args us vs Q E hr e0 hbd r hsp => ?_⟩, g, kp, .all (hb kV doc pm an (.ref c) ct)⟩
  have hl := len _ _ _ _ hsp
  have KX : K.In s.heap := e0.mod.kin.keeps fun b o e => (e0.bs b o e).1
  have lim : s.heap.NoLimit := e0.mod.nolimit.keeps fun b o e => (e0.bs b o e).1
  have hkind : ∀ y ∈ ps.zip us, (defScope st).names.lookup y.1 = some .local ∨ ((defScope st).names.lookup y.1 = some .cell ∧ ((cellsFrom (s.heap.objs.size + 1) (defScope st).names []).lookup y.1).isSome = true) := fun ⟨n, v⟩ hy => by
    rcases S.par n (List.of_mem_zip hy).1 with q | q
    · exact .inl q
    · exact .inr ⟨q, PySem.W.cellsFrom_some _ _ _ (.inl q)⟩
  refine codeAny_call_function hr.depth (KX _ _ lk) rfl S.co S.gen rfl (PySem.W.codeRec_of KX hcd) (hbd _ _ _ _ ?_)
  refine wpAny_newFunctionEnv_cells S.kind hkind fun env he s1 xc => ?_
  subst he
  refine ⟨lim.keeps xc.toInCall.keep, codeAny_func ?_⟩
  obtain ⟨t, ht, hq⟩ := body f A outer s H vs Q E (hr.deeper _) hsp
  have I := inv_start (CX := CX0) (P := P) (w := w) (E := E) (N := N) S hr.hd e0 hl r xc
  refine wpAny_mono (ht.run [] s1 (start N vs) H _ I hq) (fun fl s' hs => ?_) fun e s' hs => hs
  obtain ⟨u, v, σ', H', rfl, J, rv, l, hσ, q⟩ := hs
  show CE outer P w H s Q u s'
  obtain ⟨a, ha⟩ := cell_has (n := s.heap.objs.size + 1) hk
  have ha' : (cxOf CX0 P w K mg base N x (defScope st) f (.ref c) A outer s H E).env.cells.lookup n = some a := ha
  have fresh : s.heap.objs.size ≤ a := J.ok.cab n a rfl ha'
  have nn : H' a = Option.none := J.freeC n a ha'
  have hi : s'.heap.IsCell a (some (.ref l)) := by
    obtain ⟨m, hn, hlo⟩ := J.loc
    obtain ⟨u', ru, lu⟩ := hlo i n (.ref l) hN hσ (.inr (.inl hk))
    rcases lu with ⟨z, _⟩ | ⟨_, c', hc', hcell⟩
    · have z : (defScope st).names.lookup n = some .local := z
      rw [hk] at z
      cases z
    · rw [ha'] at hc'
      cases hc'
      obtain rfl : u' = Value.ref l := ru
      exact hcell
  have un : Un (frs outer) [] H H' s.heap s'.heap := J.base
  have old : ∀ {b : Addr} {o : Obj}, s.heap.get? b = some o → b ≠ a := fun {b o} e => Nat.ne_of_lt (Nat.lt_of_lt_of_le (Heap.lt_size e) fresh)
  refine ⟨v, upd H' a (CellO a l), J.os, J.bare, ⟨un.keep, un.slot, fun b o e n hx => ?_, un.there, fun b xs e => ?_, fun b o u e => ?_, fun b ps e => ?_⟩, hok_add J.hok nn hi, rv, q a ha nn⟩
  · rw [upd_ne (old e)]
    exact un.free b o e n hx
  · have e1 := un.tups b xs e
    rw [upd_ne (ne_of_none e1 nn)]
    exact e1
  · have e1 := un.frzs b o u e
    rw [upd_ne (ne_of_none e1 nn)]
    exact e1
  · obtain ⟨more, e1⟩ := un.tbls b ps e
    exact ⟨more, by rw [upd_ne (ne_of_none e1 nn)]; exact e1⟩
/-! ### walking -/
section
variable {σ : L2.St} {H : Hp} {T : List NTab} {i : Nat} {mk : Addr → NF} {nx bk ct : L2.St → Hp → Prop} {rt : VK}
theorem g_rSeq {t : TS} {u : TR} {R : L2.St → V → Hp → Prop} (h : t ⟨fun σ' H' => u R σ' H', fun _ _ => False, fun _ _ => False, fun _ _ => False⟩ σ H) : rSeq t u R σ H := h
theorem g_rRet {te : TE} {R : L2.St → V → Hp → Prop} (h : te σ H (R σ)) : rRet te R σ H := h
theorem g_ndef (hT : TabsN T H) (h : ∀ (f c' : Addr) (H1 : Hp), ExtN H H1 → TabsN T H1 → H f = none → H1 f = some (FnO f (mk c')) → H1 c' = some (CodeO c' (mk c').qual) → nx (σ.set i (some (.ref f))) H1) : tNdef T i mk ⟨nx, rt, bk, ct⟩ σ H := ⟨hT, h⟩
end
/-- what the maker of ways promises -/
def sp_law_way (P : Program) (w : World) (K : PySem.W.Frag) (mg : Str → Option Value) (base : Heap) (T : List NTab) : Sp := fun vs H Q _ => ∃ (n : Nat) (l : Addr) (xs : List V) (z : V), vs = [.int n, .ref l] ∧ n < 4 ∧ H l = some (.lst xs) ∧ atI xs 1 = some z ∧ TabsN T H ∧
  ∀ (H' : Hp) (f : Addr), ExtN H H' → TabsN T H' → WayAt P w K mg base 1 (wayV z n) f H' → Q (.ref f) H'
def sp_joinedW (P : Program) (w : World) (K : PySem.W.Frag) (mg : Str → Option Value) (base : Heap) (C : Addr) : Sp := fun vs H Q _ => ∃ (p q f : Addr) (wf : V → V → V) (v u : V) (ps qs : List (Int × V)), vs = [.ref p, .ref q, .ref f] ∧ LineAt C H p (cuts ps) (holds v ps) ∧ LineAt C H q (cuts qs) (holds u qs) ∧
  WayAt P w K mg base 1 wf f H ∧ (∀ x y, HV x → HV y → HV (wf x y)) ∧ Srt ps ∧ Srt qs ∧ ps.length ≤ 400 ∧ qs.length ≤ 400 ∧ AllHV v ps ∧ AllHV u qs ∧
  ∀ (H' : Hp) (r : Addr) (v' : V) (ps' : List (Int × V)), H r = none → Same H H' → LineAt C H' r (cuts ps') (holds v' ps') → Ris ps' → Nrm v' ps' → AllHV v' ps' → ps'.length ≤ ps.length + qs.length → (∀ x, at_ v' ps' x = wf (at_ v ps x) (at_ u qs x)) → Q (.ref r) H'
theorem table_hv {wf : V → V → V} (hw : ∀ x y, HV x → HV y → HV (wf x y)) {v u : V} {ps qs : List (Int × V)} (fp : AllHV v ps) (fq : AllHV u qs) (es : List Int) : AllHV (wf v u) (es.map fun e => (e, wf (at_ v ps e) (at_ u qs e))) := fun x hx => by
  rcases List.mem_cons.mp hx with rfl | hx
  · exact hw _ _ (fp v List.mem_cons_self) (fq u List.mem_cons_self)
  · obtain ⟨p, hp, rfl⟩ := List.mem_map.mp hx
    obtain ⟨e, _, rfl⟩ := List.mem_map.mp hp
    exact hw _ _ (fp _ at_mem) (fq _ at_mem)
/-- the law's own promise, with tables of code objects -/
def sp_lawT (K : PySem.W.Frag) (T : List NTab) : Sp := fun vs H Q _ => ∃ (a : Addr) (ns : List Int), vs = [.ref a] ∧ SqL K H a (ns.map V.int) ∧ ns.length ≤ 63 ∧ TabsN T H ∧ ∀ H', Q (.bl true) H'
/-! ### rows of told lines, compared -/
abbrev dLn (l : LnV) : PyData := .tuple (dTold l.1 l.2)
theorem dpa_forms {K : PySem.W.Frag} {H : Hp} : ∀ {ts : List Addr} {ls : List LnV}, FormsAt H ts ls → (∀ l ∈ ls, AllHV l.1 l.2) → DpAll K H (ts.map V.ref) (ls.map dLn)
  | [], [], _, _ => .nil
  | [], l :: ls, h, _ => nomatch h.1
  | t :: ts, [], h, _ => nomatch h.1
  | t :: ts, l :: ls, h, hv => by
    obtain ⟨lc, lh, T⟩ := h.2 0 t l rfl rfl
    exact .cons (.tup (SqT.of T.1) (dpa_told (SqL.of T.2.1) (SqL.of T.2.2) (hv l List.mem_cons_self))) (dpa_forms (ts := ts) (ls := ls) ⟨Nat.succ.inj h.1, fun i t' l' e1 e2 => h.2 (i + 1) t' l' e1 e2⟩ fun l' hl' => hv l' (List.mem_cons_of_mem _ hl'))
theorem eqva_forms : ∀ {ls : List LnV}, (∀ l ∈ ls, AllHV l.1 l.2) → PyData.eqvAll (ls.map dLn) (ls.map dLn) = true
  | [], _ => eqva_nil
  | l :: ls, hv => by
    rw [List.map_cons, eqva_cons, eqva_forms (ls := ls) fun l' hl' => hv l' (List.mem_cons_of_mem _ hl'), eqv_tup, eqva_told (hv l List.mem_cons_self) (hv l List.mem_cons_self), Bool.and_true]
    exact decide_eq_true ⟨rfl, rfl⟩
theorem sha_forms {ls : List LnV} (hv : ∀ l ∈ ls, AllHV l.1 l.2) : ShA (ls.map dLn) 2 := sha_all fun d hd => by
  obtain ⟨l, hl, rfl⟩ := List.mem_map.mp hd
  exact sh_tup (sha_told (hv l hl))
theorem forms_of {H : Hp} {ys : List V} {ls : List LnV} (hy : ys.length = ls.length) (el : ∀ (i : Nat) y, ys[i]? = some y → ∃ t : Addr, y = V.ref t ∧ ∀ l, ls[i]? = some l → ∃ lc lh, ToldAt H t lc lh l.1 l.2) : ∃ ts : List Addr, ys = ts.map V.ref ∧ FormsAt H ts ls := by
  obtain ⟨ts, ds, h1, h2, _⟩ := pick (P := fun _ (_ : Unit) => True) ys fun y hy => by
    obtain ⟨i, hi, e⟩ := List.getElem_of_mem hy
    obtain ⟨u, hu, _⟩ := el i y (by rw [List.getElem?_eq_getElem hi, e])
    exact ⟨u, (), hu, True.intro⟩
  refine ⟨ts, h1, by rw [h1, List.length_map] at hy; exact hy, fun i t l e1 e2 => ?_⟩
  obtain ⟨u', hu', hT⟩ := el i (.ref t) (by rw [h1, List.getElem?_map, e1] <;> rfl)
  cases hu'
  exact hT l e2
/-! ### what the top leaves -/
abbrev WayEx {K : PySem.W.Frag} {h : Heap} (_ : K.In h) (mg : Str → Option Value) (x : Str) (st : Stmt) : Prop := ∃ c Pt : Addr, DefAtC K mg x st c ∧ PySem.W.codeHdIn K c Pt = true ∧ K.lookup Pt = none ∧ h.get? Pt = some { cls := .none, data := .fields #[] }
theorem way_mk {K : PySem.W.Frag} {mg : Str → Option Value} {x : Str} {st : Stmt} {h : Heap} {c Pt : Addr} (X : K.In h) (G : h.Ns mainGlobals mg) {f : Addr} {oc e : Value} {od an dd : Option Addr} {osl sl : Array (Option Value)} {vs : Array Value} {kV doc pm ct : Value}
    (a : PySem.W.nsIn K mainGlobals x = some (some (.ref f))) (l : K.lookup f = some ⟨oc, od, .func (PySem.W.fnOf x x (defArgs st) (defBody st) (defScope st) .none kV doc pm an (.ref c) ct), osl⟩)
    (cc : PySem.W.codeIn K (.ref c) x = true) (k : PySem.W.keepIn K (.ref f) = true) (_ : K.lookup c = some ⟨e, dd, .fields vs, sl⟩) (_ : vs[11]? = some (.ref Pt)) (hd : PySem.W.codeHdIn K c Pt = true) (hn : K.lookup Pt = none) (he : h.get? Pt = some { cls := .none, data := .fields #[] }) : WayEx X mg x st :=
  ⟨c, Pt, defAtC_mk X G a l cc k, hd, hn, he⟩
/-- the law's end, with one table -/
theorem law_endT {l : PySem.W.OpenLaw} {w : World} {K : PySem.W.Frag} {h : Heap} {mg : Str → Option Value} {fa f c Pt : Addr} {nm : Nat → Nat → Str} {k : Nat} {x : Str} {st : Stmt} (X : K.In h) (G : h.Ns mainGlobals mg) (hfa : mg "law" = some (.ref fa))
    (hd : PySem.W.codeHdIn K c Pt = true) (hn : K.lookup Pt = none) (he : h.get? Pt = some { cls := .none, data := .fields #[] })
    {oc : Value} {od an : Option Addr} {osl : Array (Option Value)} {kV doc pm cdv ct : Value}
    (main : ∀ (base : Heap) (fd : FuncData), TabB base mg c Pt → Fun K "law" "law" st f fd → FnOk l.prog w K mg base CX0 k f fd [x] (sp_lawT K [(Pt, nm)]))
    (hb : ∀ (s : Shared) (v : Value), BindsTo s (PySem.W.fnOf "law" "law" (defArgs st) (defBody st) (defScope st) .none kV doc pm an cdv ct) ⟨[v], []⟩ [(x, v)])
    (a : PySem.W.nsIn K mainGlobals "law" = some (some (.ref f))) (lk : K.lookup f = some ⟨oc, od, .func (PySem.W.fnOf "law" "law" (defArgs st) (defBody st) (defScope st) .none kV doc pm an cdv ct), osl⟩)
    (cc : PySem.W.codeIn K cdv "law" = true) (kp : PySem.W.keepIn K (.ref f) = true) : LawAtS l w K CX0 k 63 x mg fa h := by
  have e := hfa.symm.trans (PySem.W.mg_of X G a)
  cases e
  have one : ∀ {φ : Addr × Addr → Prop}, φ (c, Pt) → ∀ p ∈ [(c, Pt)], φ p := fun {φ} h p hp => by
    rw [List.mem_singleton.mp hp]
    exact h
  refine ⟨_, [(c, Pt)], sp_lawT K [(Pt, nm)], one he, one hn, one (PySem.W.codeHd_of_K X hd), hb, fun H a ns hl _ hH hS => ?_, fun base _ _ hTB => main base _ (hTB (c, Pt) (List.mem_singleton.mpr rfl)) (fun_mk lk cc kp)⟩
  refine ⟨a, ns, rfl, hS, hl, fun p hp => ?_, fun _ => rfl⟩
  rw [List.mem_singleton.mp hp]
  exact TabN.nil (hH (c, Pt) (List.mem_singleton.mpr rfl))
end Cut
namespace Cut
open PySem PySem.Spec PyProof.Rows L2 Wk
def topS (i : Nat) : Stmt := PySem.Challenge.pw_cutline_k09_whole_joined.main.body.getD i (.Pass ⟨0, 0, 0, 0⟩)
abbrev s_Line_init : Stmt := inClass (topS 1) 0
abbrev N_Line_init : List Str := ["self", "cuts", "holds"]
theorem sc_Line_init : FnScope N_Line_init ["self", "cuts", "holds"] (defScope s_Line_init) := ⟨rfl, rfl, rfl, by decide +kernel, rfl, by decide +kernel, by decide +kernel⟩
abbrev s_line_of : Stmt := topS 2
abbrev N_line_of : List Str := ["cuts", "holds", "kept_cuts", "kept_holds", "k", "empty"]
theorem sc_line_of : FnScope N_line_of ["cuts", "holds"] (defScope s_line_of) := ⟨rfl, rfl, rfl, by decide +kernel, rfl, by decide +kernel, by decide +kernel⟩
abbrev s_value_at : Stmt := topS 3
abbrev N_value_at : List Str := ["line", "place", "count", "cut"]
theorem sc_value_at : FnScope N_value_at ["line", "place"] (defScope s_value_at) := ⟨rfl, rfl, rfl, by decide +kernel, rfl, by decide +kernel, by decide +kernel⟩
abbrev s_joined : Stmt := topS 5
abbrev N_joined : List Str := ["one", "other", "way", "cuts", "holds", "cut"]
theorem sc_joined : FnScope N_joined ["one", "other", "way"] (defScope s_joined) := ⟨rfl, rfl, rfl, by decide +kernel, rfl, by decide +kernel, by decide +kernel⟩
abbrev s_law_cell_at : Stmt := topS 7
abbrev N_law_cell_at : List Str := ["_law_script", "_law_k"]
theorem sc_law_cell_at : FnScope N_law_cell_at ["_law_script", "_law_k"] (defScope s_law_cell_at) := ⟨rfl, rfl, rfl, by decide +kernel, rfl, by decide +kernel, by decide +kernel⟩
abbrev s_law_names : Stmt := topS 8
abbrev N_law_names : List Str := ["_law_cell", "_law_letters", "_law_first", "_law_size", "_law_k"]
theorem sc_law_names : FnScope N_law_names ["_law_cell"] (defScope s_law_names) := ⟨rfl, rfl, rfl, by decide +kernel, rfl, by decide +kernel, by decide +kernel⟩
abbrev s_law_told : Stmt := topS 9
abbrev N_law_told : List Str := ["_law_cells", "_law_names_here", "_law_cuts", "_law_holds", "_law_place", "_law_cell"]
theorem sc_law_told : FnScope N_law_told ["_law_cells", "_law_names_here"] (defScope s_law_told) := ⟨rfl, rfl, rfl, by decide +kernel, rfl, by decide +kernel, by decide +kernel⟩
abbrev s_law_at : Stmt := topS 10
abbrev N_law_at : List Str := ["_law_told_here", "_law_place", "_law_value", "_law_k"]
theorem sc_law_at : FnScope N_law_at ["_law_told_here", "_law_place"] (defScope s_law_at) := ⟨rfl, rfl, rfl, by decide +kernel, rfl, by decide +kernel, by decide +kernel⟩
abbrev s_law_form : Stmt := topS 11
abbrev N_law_form : List Str := ["_law_told_here", "_law_cuts", "_law_holds", "_law_edge", "_law_value"]
theorem sc_law_form : FnScope N_law_form ["_law_told_here"] (defScope s_law_form) := ⟨rfl, rfl, rfl, by decide +kernel, rfl, by decide +kernel, by decide +kernel⟩
abbrev s_law_whole : Stmt := topS 12
abbrev N_law_whole : List Str := ["_law_found"]
theorem sc_law_whole : FnScope N_law_whole ["_law_found"] (defScope s_law_whole) := ⟨rfl, rfl, rfl, by decide +kernel, rfl, by decide +kernel, by decide +kernel⟩
abbrev s_law_held : Stmt := topS 13
abbrev N_law_held : List Str := ["_law_found", "_law_due"]
theorem sc_law_held : FnScope N_law_held ["_law_found", "_law_due"] (defScope s_law_held) := ⟨rfl, rfl, rfl, by decide +kernel, rfl, by decide +kernel, by decide +kernel⟩
abbrev s_law_line : Stmt := topS 14
abbrev N_law_line : List Str := ["_law_found", "_law_due", "_law_k"]
theorem sc_law_line : FnScope N_law_line ["_law_found", "_law_due"] (defScope s_law_line) := ⟨rfl, rfl, rfl, by decide +kernel, rfl, by decide +kernel, by decide +kernel⟩
abbrev s_law_way : Stmt := topS 15
abbrev N_law_way : List Str := ["_law_number", "_law_names_here", "_law_over", "_law_alike", "_law_without", "_law_always"]
theorem sc_law_way : FnScope N_law_way ["_law_number", "_law_names_here"] (defScope s_law_way) := ⟨rfl, rfl, rfl, by decide +kernel, rfl, by decide +kernel, by decide +kernel⟩
abbrev s_law : Stmt := topS 16
abbrev N_law : List Str := ["_law_script", "_law_names_here", "_law_told_here", "_law_other", "_law_way_here", "_law_lines", "_law_kept", "_law_cuts", "_law_holds", "_law_found", "_law_line_here", "_law_cut"]
theorem sc_law : FnScope N_law ["_law_script"] (defScope s_law) := ⟨rfl, rfl, rfl, by decide +kernel, rfl, by decide +kernel, by decide +kernel⟩
end Cut
namespace Cut
open PySem PySem.Spec PyProof.Rows L2 Wk
section
variable {P : Program} {w : World} {K : PySem.W.Frag} {mg : Str → Option Value} {base : Heap}
local macro_rules | `(tactic| walk_at "sm") => `(tactic| first
  | exact Same.refl _
  | assumption
  | (refine' Wk.Same.via ?sm1 (by assumption); (case sm1 => walk_at "sm"))
  | (refine' Wk.Same.mutd ?sm1 (by assumption) ?sm2; (case sm1 => walk_at "sm"); (case sm2 => walk_at "fr")))
local macro_rules | `(tactic| walk_at "fr") => `(tactic| first
  | assumption
  | (refine' Wk.fresh_back ?fr1 (by assumption); (case fr1 => walk_at "sm")))
local macro_rules | `(tactic| walk_at "ne") => `(tactic| first
  | assumption
  | (refine Ne.symm ?ne1; (case ne1 => assumption))
  | (refine' ne_of_none ?ne1 (by assumption); (case ne1 => walk_at "get"))
  | (refine' Ne.symm (ne_of_none ?ne1 (by assumption)); (case ne1 => walk_at "get")))
local macro_rules | `(tactic| walk_at "get") => `(tactic| first
  | assumption
  | (refine' Wk.get_via (by assumption) ?get1; (case get1 => walk_at "get"))
  | (refine' Wk.get_mv (by assumption) ?get2 ?get1; (case get1 => walk_at "get"); (case get2 => walk_at "ne")))
local macro_rules | `(tactic| walk_at "sq") => `(tactic| first
  | assumption
  | (refine' Wk.seqL ?sq1 (by assumption); (case sq1 => walk_at "sm"))
  | (refine' Wk.seqT ?sq1 (by assumption); (case sq1 => walk_at "sm"))
  | (refine' SqL.of ?sq1; (case sq1 => walk_at "get"))
  | (refine' SqT.of ?sq1; (case sq1 => walk_at "get")))
local macro_rules | `(tactic| walk_at "ix") => `(tactic| first
  | rfl
  | assumption
  | exact atI_nat (by assumption)
  | exact Wk.at_nat (Int.natCast_succ _).symm (by assumption))
local macro_rules | `(tactic| walk_at "ar") => `(tactic| first
  | assumption
  | exact abc_len
  | decide
  | omega
  | exact ⟨by decide, by decide⟩
  | exact ⟨by omega, by omega⟩
  | exact ⟨by decide, by decide, by decide⟩
  | exact Or.inr ⟨by omega, by omega⟩
  | exact Or.inl ⟨by omega, by omega⟩
  | (simp only [List.length_append, List.length_cons, List.length_nil, List.length_map]; omega))
/-! one step -/
local macro_rules | `(tactic| walk_at "wk") => `(tactic| first
  | ((with_reducible refine' Wk.g_var ?c ?_); (case c => rfl))
  | with_reducible refine' Wk.g_c ?_
  | with_reducible refine' Wk.g_seq ?_
  | with_reducible refine' Wk.g_asg ?_
  | ((with_reducible refine' Wk.g_name ?_); dsimp only [List.set])
  | with_reducible refine' Wk.g_op ?_
  | with_reducible refine' Wk.g_un ?_
  | with_reducible refine' Wk.g_I0 ?_
  | with_reducible refine' Wk.g_U ?_
  | ((with_reducible refine' Wk.g_I ?c ?_); (case c => walk_at "ar"))
  | with_reducible refine' Wk.g_addI ?_
  | ((with_reducible refine' Wk.g_addS ?c ?_); (case c => walk_at "ar"))
  | ((with_reducible refine' Wk.g_addL ?c1 ?c2 ?c ?_); (case c1 => walk_at "get"); (case c2 => walk_at "get"); (case c => walk_at "ar"); intro _ _ _ _ _)
  | ((with_reducible refine' Wk.g_ixL ?c1 ?c ?_); (case c1 => walk_at "sq"); (case c => walk_at "ix"))
  | ((with_reducible refine' Wk.g_ixT ?c1 ?c ?_); (case c1 => walk_at "sq"); (case c => walk_at "ix"))
  | ((with_reducible refine' Wk.g_ixS ?c1 ?c ?_); (case c1 => walk_at "ar"); (case c => walk_at "ix"))
  | with_reducible refine' Wk.g_eqI ?_
  | with_reducible refine' Wk.g_eqS ?_
  | with_reducible refine' Wk.g_eqB ?_
  | with_reducible refine' Wk.g_neI ?_
  | with_reducible refine' Wk.g_neS ?_
  | with_reducible refine' Wk.g_isNN ?_
  | with_reducible refine' Wk.g_isNI ?_
  | with_reducible refine' Wk.g_isNS ?_
  | with_reducible refine' Wk.g_isNR ?_
  | with_reducible refine' Wk.g_isNV ?_
  | with_reducible refine' Wk.g_notNN ?_
  | with_reducible refine' Wk.g_notNI ?_
  | with_reducible refine' Wk.g_notNS ?_
  | with_reducible refine' Wk.g_notNR ?_
  | with_reducible refine' Wk.g_notNV ?_
  | with_reducible refine' Wk.g_nil ?_
  | with_reducible refine' Wk.g_cons ?_
  | with_reducible refine' Wk.g_CB ?_
  | with_reducible refine' Wk.g_call ?_
  | ((with_reducible refine' Wk.g_lenL ?c ?_); (case c => walk_at "sq"))
  | ((with_reducible refine' Wk.g_lenT ?c ?_); (case c => walk_at "sq"))
  | ((with_reducible refine' Wk.g_lenS ?c ?_); (case c => walk_at "ar"))
  | ((with_reducible refine' Wk.g_list ?c ?_); (case c => walk_at "sq"); intro _ _ _ _ _)
  | with_reducible refine' Wk.g_max2 ?_
  | with_reducible refine' Wk.g_min2 ?_
  | with_reducible refine' Wk.g_lst ?_
  | with_reducible refine' Wk.g_tup ?_
  | ((with_reducible refine' Wk.g_kLst ?c ?_); (case c => walk_at "ar"); intro _ _ _ _ _)
  | ((with_reducible refine' Wk.g_kTup ?c ?_); (case c => walk_at "ar"); intro _ _ _ _ _)
  | with_reducible refine' Wk.g_sl ?_
  | with_reducible refine' Wk.g_noPart ?_
  | with_reducible refine' Wk.g_part ?_
  | with_reducible refine' Wk.g_kPart ?_
  | ((with_reducible refine' Wk.g_slL ?c ?_); (case c => walk_at "sq"); intro _ _ _ _ _)
  | with_reducible refine' Wk.g_test ?_
  | with_reducible refine' Wk.g_tB ?_
  | with_reducible refine' Wk.g_kTest ?_
  | with_reducible refine' Wk.g_and ?_
  | with_reducible refine' Wk.g_or ?_
  | with_reducible refine' Wk.g_not ?_
  | with_reducible refine' Wk.g_andV ?_
  | with_reducible refine' Wk.g_orV ?_
  | with_reducible refine' Wk.g_notV ?_
  | with_reducible refine' Wk.g_kNotV ?_
  | with_reducible refine' Wk.g_ifE ?_
  | with_reducible refine' Wk.g_fld ?_
  | ((with_reducible refine' Wk.g_isiI ?c ?_); (case c => first | exact Wk.k_ii | exact Wk.k_ib | exact Wk.k_ss | exact Wk.k_ns | exact Wk.k_ni | exact Wk.k_bb | exact Wk.k_ll | exact Wk.k_tt | exact Wk.k_it | exact Wk.k_nt | exact Wk.k_sb | exact Wk.k_nb))
  | ((with_reducible refine' Wk.g_isiS ?c ?_); (case c => first | exact Wk.k_ii | exact Wk.k_ib | exact Wk.k_ss | exact Wk.k_ns | exact Wk.k_ni | exact Wk.k_bb | exact Wk.k_ll | exact Wk.k_tt | exact Wk.k_it | exact Wk.k_nt | exact Wk.k_sb | exact Wk.k_nb))
  | ((with_reducible refine' Wk.g_isiB ?c ?_); (case c => first | exact Wk.k_ii | exact Wk.k_ib | exact Wk.k_ss | exact Wk.k_ns | exact Wk.k_ni | exact Wk.k_bb | exact Wk.k_ll | exact Wk.k_tt | exact Wk.k_it | exact Wk.k_nt | exact Wk.k_sb | exact Wk.k_nb))
  | ((with_reducible refine' Wk.g_isiN ?c ?_); (case c => first | exact Wk.k_ii | exact Wk.k_ib | exact Wk.k_ss | exact Wk.k_ns | exact Wk.k_ni | exact Wk.k_bb | exact Wk.k_ll | exact Wk.k_tt | exact Wk.k_it | exact Wk.k_nt | exact Wk.k_sb | exact Wk.k_nb))
  | ((with_reducible refine' Wk.g_isiL ?c1 ?c ?_); (case c1 => walk_at "get"); (case c => first | exact Wk.k_ii | exact Wk.k_ib | exact Wk.k_ss | exact Wk.k_ns | exact Wk.k_ni | exact Wk.k_bb | exact Wk.k_ll | exact Wk.k_tt | exact Wk.k_it | exact Wk.k_nt | exact Wk.k_sb | exact Wk.k_nb))
  | ((with_reducible refine' Wk.g_isiT ?c1 ?c ?_); (case c1 => walk_at "get"); (case c => first | exact Wk.k_ii | exact Wk.k_ib | exact Wk.k_ss | exact Wk.k_ns | exact Wk.k_ni | exact Wk.k_bb | exact Wk.k_ll | exact Wk.k_tt | exact Wk.k_it | exact Wk.k_nt | exact Wk.k_sb | exact Wk.k_nb))
  | with_reducible refine' Wk.g_next ?_
  | with_reducible refine' Wk.g_break ?_
  | with_reducible refine' Wk.g_cont ?_
  | with_reducible refine' Wk.g_drop ?_
  | with_reducible refine' Wk.g_ret ?_
  | with_reducible refine' Wk.g_retN ?_
  | with_reducible refine' Wk.g_if ?_
  | ((with_reducible refine' Wk.g_kIfT ?c ?_); (case c => first | assumption | rfl))
  | ((with_reducible refine' Wk.g_kIfF ?c ?_); (case c => first | assumption | rfl))
  | ((with_reducible refine' Wk.g_kAndT ?c ?_); (case c => first | assumption | rfl))
  | ((with_reducible refine' Wk.g_kAndF ?c ?_); (case c => first | assumption | rfl))
  | ((with_reducible refine' Wk.g_kOrT ?c ?_); (case c => first | assumption | rfl))
  | ((with_reducible refine' Wk.g_kOrF ?c ?_); (case c => first | assumption | rfl))
  | with_reducible refine' Wk.g_app ?_
  | ((with_reducible refine' Wk.g_kApp ?c ?_); (case c => walk_at "get"))
  | ((with_reducible refine' Wk.g_kApp2 ?c1 ?c ?_); (case c1 => walk_at "get"); (case c => walk_at "ar"); intro _ _ _)
  | with_reducible refine' Wk.g_ext ?_
  | ((with_reducible refine' Wk.g_kExt ?c ?_); (case c => walk_at "get"))
  | ((with_reducible refine' Wk.g_kExt2 ?c1 ?c2 ?c ?_); (case c1 => walk_at "get"); (case c2 => walk_at "get"); (case c => walk_at "ar"); intro _ _ _)
  | with_reducible refine' Wk.g_callS ?_
  | ((with_reducible refine' Wk.g_callL ?c ?_); (case c => rfl))
  | ((with_reducible refine' Wk.g_tupL ?c ?_); (case c => walk_at "sq"); intro _ _ _ _ _)
  | with_reducible refine' Wk.g_fldS ?_
  | with_reducible refine' Wk.g_meth ?_
  | ((with_reducible refine' Wk.g_dnew ?_); intro _ _ _ _ _)
  | ((with_reducible refine' Wk.g_dict ?c ?_); (case c => walk_at "get"); intro _ _ _ _ _)
  | with_reducible refine' Wk.g_dget ?_
  | with_reducible refine' Wk.g_kDGet ?_
  | with_reducible refine' Wk.g_dget2 ?_
  | with_reducible refine' Wk.g_dnotin ?_
  | with_reducible refine' Wk.g_kDG2 ?_
  | with_reducible refine' Wk.g_pop ?_
  | with_reducible refine' Wk.g_clear ?_
  | with_reducible refine' Wk.g_forS ?_
  | with_reducible refine' Wk.g_notInSign ?_
  | with_reducible refine' Wk.g_intB ?_
  | with_reducible refine' Wk.g_intI ?_
  | with_reducible refine' Wk.g_tryAs ?_
  | with_reducible refine' Wk.g_tryOnly ?_
  | with_reducible refine' Wk.g_tryMany ?_
  | with_reducible refine' Wk.g_chain ?_
  | with_reducible refine' Wk.g_lcT ?_
  | with_reducible refine' Wk.g_lcV ?_
  | with_reducible refine' Wk.g_upper ?_
  | with_reducible refine' Wk.g_repl ?_
  | with_reducible refine' Wk.g_forV ?_
  | ((with_reducible refine' Wk.g_sum ?c ?_); (case c => walk_at "sq"))
  | with_reducible refine' Wk.g_forL ?_
  | with_reducible refine' Wk.g_forR ?_
  | with_reducible refine' Wk.g_lcL ?_
  | with_reducible refine' Wk.g_sub ?_
  | with_reducible refine' Wk.g_make ?_
  | with_reducible refine' Wk.g_lcR ?_
  | with_reducible refine' Wk.g_m1 ?_
  | with_reducible refine' Wk.g_kM1 ?_)
local macro_rules | `(tactic| walk_at "cl") => `(tactic| (try dsimp only [List.map, L2.wipe, List.set]))
local macro_rules | `(tactic| walk_at "go") => `(tactic| (repeat walk_at "wk"))
local macro_rules | `(tactic| walk_at "go2") => `(tactic| (repeat (first | walk_at "wk" | ((with_reducible refine' Wk.g_addS ?c ?_); (case c => (simp only [Cut.len_app, Cut.len_dd, Cut.len_sp, Cut.len_cs]; omega))))))
theorem ok_Line_init {C fI : Addr} (L : LineC K mg C fI) (D : MetAt K "__init__" "Line.__init__" s_Line_init fI) : Rm P w K mg base CX0 1 fI ["self", "cuts", "holds"] (sp_Line_init C) := by
  refine D.ok sc_Line_init (fun _ _ _ _ _ _ us hl => match us, hl with | [_, _, _], _ => rfl) (fun vs H Q E h => ?_) (fun cdv A outer s H vs Q E hr h => ?_)
  · obtain ⟨p, dx, lc, lh, rfl, _⟩ := h
    rfl
  · obtain ⟨p, dx, lc, lh, rfl, hp, q⟩ := h
    refine ⟨_, (pss_cons (ps_fld (pv 0) (pv 1) rfl)
 (pss_one (ps_fld (pv 0) (pv 2) rfl))), ?_⟩
    refine ⟨_, rfl, _, rfl, p, C, dx, [], rfl, hp, L.cl, L.nC, (by show 0 < 1000; decide), ?_⟩
    refine ⟨_, rfl, _, rfl, p, C, dx, _, rfl, upd_same, L.cl, L.nH, (by show 1 < 1000; decide), ?_⟩
    show Q .non _
    rw [upd_upd, lf_put]
    exact q

theorem ok_line_of {C fI : Addr} (B : Bt mg) (L : LineC K mg C fI) (R_Line_init : Rm P w K mg base CX0 1 fI ["self", "cuts", "holds"] (sp_Line_init C)) (D : DefAt K mg "line_of" s_line_of) : Rd P w K mg base CX0 3 "line_of" ["cuts", "holds"] (sp_line_of K C) := by
  refine D.ok sc_line_of (fun _ _ _ _ _ _ us hl => match us, hl with | [_, _], _ => rfl) (fun vs H Q E h => ?_) (fun f cdv A outer s H vs Q E hr h => ?_)
  · obtain ⟨a, b, v, ps, eq, rfl, _⟩ := h
    rfl
  · obtain ⟨a, b, v, ps, eq, rfl, hA, hB, hn, hne, q⟩ := h
    refine ⟨_, (pss_cons (ps_set (i := 2) sc_line_of.nd rfl (by first | exact Or.inl rfl | exact Or.inr rfl) (pe_lst pa_nil))
 (pss_cons (ps_set (i := 3) sc_line_of.nd rfl (by first | exact Or.inl rfl | exact Or.inr rfl) (pe_lst (pa_cons (pe_ix ix_seq (pv 1) pe_int (fun _ _ => rfl)) pa_nil)))
 (pss_cons (ps_for PassesOwn.never rfl (pi_range1 (by rfl) B.range (pa_cons (pe_callB call_lenA (by rfl) B.len (by decide +kernel) (pa_cons (pv 0) pa_nil)) pa_nil)) (pg_name (i := 4) sc_line_of.nd rfl (by first | exact Or.inl rfl | exact Or.inr rfl)) (pss_cons (ps_set (i := 5) sc_line_of.nd rfl (by first | exact Or.inl rfl | exact Or.inr rfl) (pe_and (pe_cmpR op_lt (pe_op op_addA (pv 4) pe_int) (pe_callB call_lenA (by rfl) B.len (by decide +kernel) (pa_cons (pv 0) pa_nil)) (nomark _)) (pe_one (pe_cmpR (op_eqA hr.units) (pe_ix ix_seq (pv 0) (pe_op op_addA (pv 4) pe_int) (fun _ _ => rfl)) (pe_ix ix_seq (pv 0) (pv 4) (fun _ _ => rfl)) (nomark _)))))
 (pss_one (ps_if (PW.pt (pw_and (pt_not (pt_val (pv 5))) (pw_and1 (pt_cmpR (op_neA hr.units) (pe_ix ix_seq (pv 1) (pe_op op_addA (pv 4) pe_int) (fun _ _ => rfl)) (pe_ix ix_seq (pv 3) (pe_un un_neg pe_int) (fun _ _ => rfl)) (nomark _))))) (pss_cons (ps_expr (pe_bm PySem.F.plainAttrs_list PySem.F.slot_list_append PySem.F.type_list_append mt_append (pv 2) (pa_cons (pe_ix ix_seq (pv 0) (pv 4) (fun _ _ => rfl)) pa_nil)))
 (pss_one (ps_expr (pe_bm PySem.F.plainAttrs_list PySem.F.slot_list_append PySem.F.type_list_append mt_append (pv 3) (pa_cons (pe_ix ix_seq (pv 1) (pe_op op_addA (pv 4) pe_int) (fun _ _ => rfl)) pa_nil))))) pss_nil))))
 (pss_one (ps_ret (pe_makeR L.made R_Line_init (hr.mono (by decide)) rfl L.mgC pass0 (pa_cons (pv 2) (pa_cons (pv 3) pa_nil)))))))), ?_⟩
    change Wk.go _ _ [_, _, none, none, none, none] H
    (try dsimp only [Wk.cxK, Wk.cxKn, Wk.cxW, Wk.cxWn, Wk.cxP, Wk.cxPn])
    have h0 : (holds v ps)[0]? = some v := rfl
    walk_at "go"
    rename_i p1 H1 n1 s1 e1 p2 H2 n2 s2 e2
    have n12 : p1 ≠ p2 := ne_of_none e1 n2
    have f2 : H p2 = none := fresh_back s1 n2
    have s02 : Same H H2 := Same.via s1 s2
    have hlen : ((cuts ps).map V.int).length = ps.length := by rw [List.length_map, List.length_map]
    refine Wk.g_kForR (n := ps.length) (by rw [hlen]) (by omega)
      (fun i σ' H' => ∃ (y4 y5 : Option V) (acc : List (Int × V)) (last : V), σ' = [some (.ref a), some (.ref b), some (.ref p1), some (.ref p2), y4, y5] ∧ Same H H' ∧ H' p1 = some (.lst ((cuts acc).map V.int)) ∧ H' p2 = some (.lst (holds v acc)) ∧
        (holds v acc)[acc.length]? = some last ∧ last ∈ holds v ps ∧ acc.length ≤ i ∧ acc ++ keepB eq last (ps.drop i) = keepB eq v ps)
      ⟨none, none, [], v, rfl, s02, s2 _ _ e1, e2, rfl, List.mem_cons_self, Nat.zero_le _, rfl⟩ (fun i σ' H' hi hP => ?_) (fun σ' H' hP => ?_)
    · obtain ⟨y4, y5, acc, last, rfl, sH, ec, eh, hlast, hmem, hacc, hk⟩ := hP
      obtain ⟨⟨c, h⟩, hp⟩ : ∃ p, ps[i]? = some p := ⟨_, List.getElem?_eq_getElem hi⟩
      have hdrop := drop_at hp
      have hc : ((cuts ps).map V.int)[i]? = some (.int c) := by rw [List.getElem?_map, List.getElem?_map, hp] <;> rfl
      have hh : (holds v ps)[i + 1]? = some h := hold_at hp
      have hhm : h ∈ holds v ps := List.mem_of_getElem? hh
      have hl1 : atI (holds v acc) (-1) = some last := by
        rw [last_hold hlast]
        exact atI_last _ _
      walk_at "go"
      refine Wk.g_kAndVm (dup c (ps.drop (i + 1))) (fun hb Q' q' => ?_) (fun hb => ?_) (fun H3 s3 => ?_)
      · have hb := of_decide_eq_true hb
        have hi2 : i + 1 < ps.length := by omega
        obtain ⟨⟨d, g⟩, hq⟩ : ∃ p, ps[i + 1]? = some p := ⟨_, List.getElem?_eq_getElem hi2⟩
        have hd : ((cuts ps).map V.int)[i + 1]? = some (.int d) := by rw [List.getElem?_map, List.getElem?_map, hq] <;> rfl
        walk_at "go"
        rw [drop_at hq] at q'
        exact q' _ (Same.refl _)
      · have hb := of_decide_eq_false hb
        rw [List.drop_eq_nil_of_le (by omega)]
        rfl
      walk_at "go"
      have hnl := hne h hhm last hmem
      refine Wk.g_kAndm (!dup c (ps.drop (i + 1)) && !eq h last) (fun hb Q' q' => ?_) (fun hb => by rw [hb]; rfl) (fun H4 s4 => ?_)
      · walk_at "go"
        refine hnl _ (Same.via sH s3) _ ?_
        walk_at "go"
        rw [hb] at q'
        exact q' _ (Same.refl _)
      have s34 := Same.via s3 s4
      have e1' := s34 _ _ ec
      have e2' := s34 _ _ eh
      have sH4 := Same.via sH s34
      rw [hdrop, keepB] at hk
      refine Wk.g_kIf (fun hb => ?_) (fun hb => ?_)
      · have hb1 : dup c (ps.drop (i + 1)) = false := by cases hq : dup c (ps.drop (i + 1)) <;> simp [hq] at hb ⊢
        have hb2 : eq h last = false := by cases hq : eq h last <;> simp [hq] at hb ⊢
        rw [hb1, if_neg Bool.false_ne_true, hb2, if_neg Bool.false_ne_true] at hk
        walk_at "go"
        rename_i H5 m5 e5 H6 m6 e6
        refine ⟨_, _, acc ++ [(c, h)], h, rfl, Wk.Same.mutd (Wk.Same.mutd sH4 m5 n1) m6 f2, ?_, ?_, ?_, hhm, by rw [List.length_append, List.length_singleton]; omega, by rw [List.append_assoc]; exact hk⟩
        · rw [m6 p1 n12, e5, cuts_app, List.map_append] <;> rfl
        · rw [e6, holds_app]
        · rw [holds_app, List.getElem?_append_right (by simp [holds]), List.length_append, List.length_singleton] <;> simp [holds]
      · have hk2 : acc ++ keepB eq last (ps.drop (i + 1)) = keepB eq v ps := by
          cases hq : dup c (ps.drop (i + 1)) with
          | true => rw [hq, if_pos rfl] at hk; exact hk
          | false =>
            rw [hq, if_neg Bool.false_ne_true] at hk
            have hb2 : eq h last = true := by rw [hq] at hb; cases hq2 : eq h last <;> simp [hq2] at hb ⊢
            rw [hb2, if_pos rfl] at hk
            exact hk
        walk_at "go"
        exact ⟨_, _, acc, last, rfl, sH4, e1', e2', hlast, hmem, by omega, hk2⟩
    · obtain ⟨y4, y5, acc, last, rfl, sH, ec, eh, hlast, hmem, hacc, hk⟩ := hP
      rw [List.drop_length, keepB, List.append_nil] at hk
      walk_at "go"
      refine g_Line C ec eh fun H3 p dx hp s3 hl => ?_
      subst hk
      exact q H3 p (Wk.fresh_back sH hp) (Same.via sH s3) ⟨dx, p1, p2, n1, f2, hl, s3 _ _ ec, s3 _ _ eh⟩

theorem ok_value_at {C fI : Addr} (B : Bt mg) (L : LineC K mg C fI) (D : DefAt K mg "value_at" s_value_at) : Rd P w K mg base CX0 1 "value_at" ["line", "place"] (sp_value_at C) := by
  refine D.ok sc_value_at (fun _ _ _ _ _ _ us hl => match us, hl with | [_, _], _ => rfl) (fun vs H Q E h => ?_) (fun f cdv A outer s H vs Q E hr h => ?_)
  · obtain ⟨p, v, ps, x, rfl, _⟩ := h
    rfl
  · obtain ⟨p, v, ps, x, rfl, hL, hs, q⟩ := h
    refine ⟨_, (pss_cons (ps_set (i := 2) sc_value_at.nd rfl (by first | exact Or.inl rfl | exact Or.inr rfl) pe_int)
 (pss_cons (ps_for PassesOwn.never rfl (pi_list (pe_fld (pv 0) rfl)) (pg_name (i := 3) sc_value_at.nd rfl (by first | exact Or.inl rfl | exact Or.inr rfl)) (pss_one (ps_if (pt_cmpR op_le (pv 3) (pv 1) (nomark _)) (pss_one (ps_set (i := 2) sc_value_at.nd rfl (by first | exact Or.inl rfl | exact Or.inr rfl) (pe_op op_addA (pv 2) pe_int))) pss_nil)))
 (pss_one (ps_ret (pe_ix ix_seq (pe_fld (pv 0) rfl) (pv 2) (fun _ _ => rfl)))))), ?_⟩
    change Wk.go _ _ [_, _, none, none] H
    (try dsimp only [Wk.cxK, Wk.cxKn, Wk.cxW, Wk.cxWn, Wk.cxP, Wk.cxPn])
    obtain ⟨dx, lc, lh, hi, hlc, hlh⟩ := id hL
    walk_at "go"
    refine ⟨p, C, dx, _, _, rfl, hi, L.cl, L.nC, lf_cuts _ _, ?_⟩
    refine Wk.g_kForL (SqL.of hlc)
      (fun i σ' H' => ∃ (y3 : Option V), σ' = [some (.ref p), some (.int x), some (.int (((cuts ps).take i).countP fun c => decide (c ≤ x) : Nat)), y3] ∧ Same H H')
      ⟨none, rfl, Same.refl _⟩ (fun i σ' H' hP => ?_) (fun i y σ' H' hy hP => ?_) (fun σ' H' hP => ?_)
    · obtain ⟨_, _, sH⟩ := hP
      exact SqL.of (sH _ _ hlc)
    · obtain ⟨y3, rfl, sH⟩ := hP
      obtain ⟨c, hc, rfl⟩ := int_at hy
      have e : (cuts ps).take (i + 1) = (cuts ps).take i ++ [c] := by rw [List.take_add_one, hc] <;> rfl
      walk_at "go"
      refine Wk.g_kIf (fun hb => ?_) (fun hb => ?_)
      · walk_at "go"
        refine ⟨some (.int c), ?_, sH⟩
        rw [e, List.countP_append, List.countP_singleton, if_pos hb] <;> rfl
      · walk_at "go"
        refine ⟨some (.int c), ?_, sH⟩
        rw [e, List.countP_append, List.countP_singleton, if_neg (by rw [hb]; exact Bool.false_ne_true)] <;> rfl
    · obtain ⟨y3, rfl, sH⟩ := hP
      rw [List.length_map, List.take_length]
      have hcount := at_count (v := v) (x := x) hs
      have hlh' := sH _ _ hlh
      walk_at "go"
      refine ⟨p, C, dx, _, _, rfl, sH _ _ hi, L.cl, L.nH, lf_holds _ _, ?_⟩
      walk_at "go"
      exact q _ sH

theorem ok_joined {C fI : Addr} (B : Bt mg) (L : LineC K mg C fI) (R_line_of : Rd P w K mg base CX0 3 "line_of" ["cuts", "holds"] (sp_line_of K C)) (R_value_at : Rd P w K mg base CX0 1 "value_at" ["line", "place"] (sp_value_at C)) (D : DefAt K mg "joined" s_joined) : Rd P w K mg base CX0 4 "joined" ["one", "other", "way"] (sp_joinedW P w K mg base C) := by
  refine D.ok sc_joined (fun _ _ _ _ _ _ us hl => match us, hl with | [_, _, _], _ => rfl) (fun vs H Q E h => ?_) (fun f cdv A outer s H vs Q E hr h => ?_)
  · obtain ⟨p, r, fa, wf, v, u, ps, qs, rfl, _⟩ := h
    rfl
  · obtain ⟨p, r, fa, wf, v, u, ps, qs, rfl, hp, hq, W, hW, hsp, hsq, lp, lq, fp, fq, q⟩ := h
    refine ⟨_, (pss_cons (ps_set (i := 3) sc_joined.nd rfl (by first | exact Or.inl rfl | exact Or.inr rfl) (pe_callB (call_sortedA rfl) (by rfl) B.sorted (by decide +kernel) (pa_cons (pe_callTy (call_setA rfl) (by rfl) B.set (by decide +kernel) (pa_cons (pe_op op_addA (pe_fld (pv 0) rfl) (pe_fld (pv 1) rfl)) pa_nil)) pa_nil)))
 (pss_cons (ps_set (i := 4) sc_joined.nd rfl (by first | exact Or.inl rfl | exact Or.inr rfl) (pe_lst (pa_cons (pe_callW (P := P) (w := w) (K := K) (mg := mg) (base := base) (k := 1) (i := 2) rfl rfl rfl rfl rfl (hr.mono (by decide)) rfl (by first | exact Or.inl rfl | exact Or.inr (Or.inl rfl) | exact Or.inr (Or.inr rfl)) (pa_cons (pe_ix ix_seq (pe_fld (pv 0) rfl) pe_int (fun _ _ => rfl)) (pa_cons (pe_ix ix_seq (pe_fld (pv 1) rfl) pe_int (fun _ _ => rfl)) pa_nil))) pa_nil)))
 (pss_cons (ps_for PassesOwn.never rfl (pi_list (pv 3)) (pg_name (i := 5) sc_joined.nd rfl (by first | exact Or.inl rfl | exact Or.inr rfl)) (pss_one (ps_expr (pe_bm PySem.F.plainAttrs_list PySem.F.slot_list_append PySem.F.type_list_append mt_append (pv 4) (pa_cons (pe_callW (P := P) (w := w) (K := K) (mg := mg) (base := base) (k := 1) (i := 2) rfl rfl rfl rfl rfl (hr.mono (by decide)) rfl (by first | exact Or.inl rfl | exact Or.inr (Or.inl rfl) | exact Or.inr (Or.inr rfl)) (pa_cons (pe_callR R_value_at (hr.mono (by decide)) rfl pass0 (pa_cons (pv 0) (pa_cons (pv 5) pa_nil))) (pa_cons (pe_callR R_value_at (hr.mono (by decide)) rfl pass0 (pa_cons (pv 1) (pa_cons (pv 5) pa_nil))) pa_nil))) pa_nil)))))
 (pss_one (ps_ret (pe_callR R_line_of (hr.mono (by decide)) rfl pass0 (pa_cons (pv 3) (pa_cons (pv 4) pa_nil)))))))), ?_⟩
    change Wk.go _ _ [_, _, _, none, none, none] H
    (try dsimp only [Wk.cxK, Wk.cxKn, Wk.cxW, Wk.cxWn, Wk.cxP, Wk.cxPn])
    obtain ⟨dx, mc, mh, hi, hmc, hmh⟩ := id hp
    obtain ⟨dy, lc, lh, hj, hlc, hlh⟩ := id hq
    have l1 : ((cuts ps).map V.int).length ≤ 400 := by rw [List.length_map, List.length_map]; exact lp
    have l2 : ((cuts qs).map V.int).length ≤ 400 := by rw [List.length_map, List.length_map]; exact lq
    have l3 : (cuts ps ++ cuts qs).length = ps.length + qs.length := by rw [List.length_append, List.length_map, List.length_map]
    walk_at "go"
    refine ⟨p, C, dx, _, _, rfl, hi, L.cl, L.nC, lf_cuts _ _, ?_⟩
    walk_at "go"
    refine ⟨r, C, dy, _, _, rfl, hj, L.cl, L.nC, lf_cuts _ _, ?_⟩
    walk_at "go"
    rename_i z1 H1 n1 s1 e1
    rw [← List.map_append] at e1
    refine Wk.g_set (SqL.of e1) (by omega) fun y c H2 n2 s2 e2 hcl => ?_
    walk_at "go"
    refine Wk.g_sortedset e2 hcl (by omega) fun es z H3 hpw hm hl n3 s3 e3 => ?_
    have s03 := Same.via s1 (Same.via s2 s3)
    have h0p : (holds v ps)[0]? = some v := rfl
    have h0q : (holds u qs)[0]? = some u := rfl
    have hi3 := s03 _ _ hi
    have hj3 := s03 _ _ hj
    have hmh3 := s03 _ _ hmh
    have hlh3 := s03 _ _ hlh
    have W3 := W.same s03
    walk_at "go"
    refine g_callW rfl W3 ?_
    walk_at "go"
    refine ⟨p, C, dx, _, _, rfl, hi3, L.cl, L.nH, lf_holds _ _, ?_⟩
    walk_at "go"
    refine ⟨r, C, dy, _, _, rfl, hj3, L.cl, L.nH, lf_holds _ _, ?_⟩
    walk_at "go"
    refine ⟨v, u, rfl, W3, fp v List.mem_cons_self, fq u List.mem_cons_self, ?_⟩
    walk_at "go"
    rename_i hd H5 n5 s5 e5
    have s35 := s5
    have s05 := Same.via s03 s35
    have fhd : H hd = none := Wk.fresh_back s03 n5
    have nzh : z ≠ hd := ne_of_none e3 n5
    have fz : H z = none := Wk.fresh_back (Same.via s1 s2) n3
    refine Wk.g_kForL (SqL.of (s35 _ _ e3))
      (fun i σ' H' => ∃ (y5 : Option V), σ' = [some (.ref p), some (.ref r), some (.ref fa), some (.ref z), some (.ref hd), y5] ∧ Same H H' ∧ H' z = some (.lst (es.map V.int)) ∧ H' hd = some (.lst (wf v u :: (es.take i).map fun e => wf (at_ v ps e) (at_ u qs e))))
      ⟨none, rfl, s05, s35 _ _ e3, e5⟩ (fun i σ' H' hP => ?_) (fun i x σ' H' hx hP => ?_) (fun σ' H' hP => ?_)
    · obtain ⟨_, _, _, ez, _⟩ := hP
      exact SqL.of ez
    · obtain ⟨y5, rfl, sH, ez, eh⟩ := hP
      obtain ⟨c, hc, rfl⟩ := int_at hx
      have hi := (List.getElem?_eq_some_iff.mp hc).1
      walk_at "go"
      refine g_callW rfl (W.same sH) ?_
      walk_at "go"
      refine ⟨p, v, ps, c, rfl, hp.same sH, hsp, fun H6 s6 => ?_⟩
      walk_at "go"
      refine ⟨r, u, qs, c, rfl, hq.same (Same.via sH s6), hsq, fun H7 s7 => ?_⟩
      walk_at "go"
      have s68 := Same.via s6 s7
      refine ⟨_, _, rfl, W.same (Same.via sH s68), fp _ at_mem, fq _ at_mem, ?_⟩
      have eh8 := s68 _ _ eh
      have hlt : (wf v u :: (es.take i).map fun e => wf (at_ v ps e) (at_ u qs e)).length < 100000 := by rw [List.length_cons, List.length_map, List.length_take]; omega
      walk_at "go"
      rename_i H9 m9 e9
      refine ⟨_, rfl, Wk.Same.mutd (Same.via sH s68) m9 fhd, by rw [m9 z nzh]; exact s68 _ _ ez, ?_⟩
      rw [e9, List.take_add_one, hc, List.map_append] <;> rfl
    · obtain ⟨y5, rfl, sH, ez, eh⟩ := hP
      rw [List.length_map, List.take_length] at eh
      have hst := steps_both (G := wf) (f := at_ v ps) (g := at_ u qs) steps_at steps_at hm
      have hlo := lo_both (G := wf) (v := v) (u := u) hm
      have hat := at_table (f := fun e => wf (at_ v ps e) (at_ u qs e)) hpw hlo hst
      have hsr := srt_table (f := fun e => wf (at_ v ps e) (at_ u qs e)) hpw
      have hfl := table_hv hW fp fq es
      walk_at "go"
      refine ⟨z, hd, wf v u, es.map fun e => (e, wf (at_ v ps e) (at_ u qs e)), fun x y => decide (x = y), rfl, SqL.of (by rw [cuts_table (f := fun e => wf (at_ v ps e) (at_ u qs e))]; exact ez), SqL.of (by rw [holds_table (f := fun e => wf (at_ v ps e) (at_ u qs e))]; exact eh), by rw [List.length_map]; omega, hfl.ne, fun H6 p2 n6 s6 hl2 => ?_⟩
      walk_at "go"
      exact q H6 p2 _ _ (Wk.fresh_back sH n6) (Same.via sH s6) hl2.at (keep_ris hsr) (keep_nrm _ _) hfl.keep (Nat.le_trans keepB_len (by rw [List.length_map]; omega)) fun x => (at_keep hsr x).trans (hat x)

theorem ok_law_cell_at (B : Bt mg) (D : DefAt K mg "_law_cell_at" s_law_cell_at) : Rd P w K mg base CX0 1 "_law_cell_at" ["_law_script", "_law_k"] (sp_law_cell_at K) := by
  refine D.ok sc_law_cell_at (fun _ _ _ _ _ _ us hl => match us, hl with | [_, _], _ => rfl) (fun vs H Q E h => ?_) (fun f cdv A outer s H vs Q E hr h => ?_)
  · obtain ⟨a, ns, k, rfl, _⟩ := h
    rfl
  · obtain ⟨a, ns, k, rfl, hS, q⟩ := h
    refine ⟨_, (pss_cons (ps_if (pt_cmpR op_lt (pv 1) (pe_callB call_lenA (by rfl) B.len (by decide +kernel) (pa_cons (pv 0) pa_nil)) (nomark _)) (pss_one (ps_ret (pe_ix ix_seq (pv 0) (pv 1) (fun _ _ => rfl)))) pss_nil)
 (pss_one (ps_ret pe_int))), ?_⟩
    change Wk.go _ _ [_, _] H
    (try dsimp only [Wk.cxK, Wk.cxKn, Wk.cxW, Wk.cxWn, Wk.cxP, Wk.cxPn])
    repeat walk_at "wk"
    refine g_kIf (fun hb => ?_) (fun hb => ?_)
    · have hb := of_decide_eq_true hb
      have hk : (ns.map V.int)[k]? = some (.int (ns.getD k 0)) := by
        have h1 : k < ns.length := by rw [List.length_map] at hb; omega
        rw [List.getElem?_map, List.getD_eq_getElem?_getD, List.getElem?_eq_getElem h1] <;> rfl
      repeat walk_at "wk"
      exact q
    · have hb := of_decide_eq_false hb
      repeat walk_at "wk"
      have e : ns.getD k 0 = 0 := by
        rw [List.length_map] at hb
        rw [List.getD_eq_getElem?_getD, List.getElem?_eq_none (by omega)] <;> rfl
      rw [e] at q
      exact q

theorem ok_law_names (B : Bt mg) (D : DefAt K mg "_law_names" s_law_names) : Rd P w K mg base CX0 1 "_law_names" ["_law_cell"] sp_law_names := by
  refine D.ok sc_law_names (fun _ _ _ _ _ _ us hl => match us, hl with | [_], _ => rfl) (fun vs H Q E h => ?_) (fun f cdv A outer s H vs Q E hr h => ?_)
  · obtain ⟨i, rfl, _⟩ := h
    rfl
  · obtain ⟨c, rfl, q⟩ := h
    refine ⟨_, (pss_cons (ps_set (i := 1) sc_law_names.nd rfl (by first | exact Or.inl rfl | exact Or.inr rfl) pe_str)
 (pss_cons (ps_set (i := 2) sc_law_names.nd rfl (by first | exact Or.inl rfl | exact Or.inr rfl) (pe_ix ix_seq (pv 1) (pe_op op_mod (pv 0) pe_int) (fun _ _ => rfl)))
 (pss_cons (ps_set (i := 3) sc_law_names.nd rfl (by first | exact Or.inl rfl | exact Or.inr rfl) (pe_op op_addA pe_int (pe_op op_mod (pe_op op_fdiv (pv 0) pe_int) pe_int)))
 (pss_one (ps_ret (pe_lst (pa_cons pe_non (pa_cons (pv 2) (pa_cons (pe_op op_addA (pe_joinA pe_str (pe_lc (own := [("_law_k", 4)]) (g := gName 4) (tt := tYes) (by rfl) sc_law_names.nd (pi_range1 (by rfl) B.range (pa_cons (pv 3) pa_nil)) (blkOk_by (own := [("_law_k", 4)]) (N := N_law_names) (sc := defScope s_law_names) (by decide +kernel)) (fun _ _ _ _ _ => pg_name (i := 4) sc_law_names.nd rfl (by first | exact Or.inl rfl | exact Or.inr rfl)) (fun _ _ _ _ _ => pts_nil) (fun _ _ _ _ _ => (pv 2)))) pe_str) (pa_cons (pe_ix ix_seq (pv 1) (pe_op op_mod (pe_op op_addA (pv 0) pe_int) pe_int) (fun _ _ => rfl)) pa_nil)))))))))), ?_⟩
    change Wk.go _ _ [_, none, none, none, none] H
    (try dsimp only [Wk.cxK, Wk.cxKn, Wk.cxW, Wk.cxWn, Wk.cxP, Wk.cxPn])
    obtain ⟨x, hx, hx2⟩ := letter_at (i := c % 26) (by omega) (by omega)
    obtain ⟨y, hy, hy2⟩ := letter_at (i := (c + 5) % 26) (by omega) (by omega)
    repeat walk_at "wk"
    refine Wk.g_kLcRV (n := (1 + c / 26 % 12).toNat) (fun _ => .str ⟨#[x]⟩) (by omega) (by omega) (by intro _; rfl) (fun i H' Q' hi sm qq => ?_) (fun l H1 nl s1 hl => ?_)
    · walk_at "cl"
      repeat walk_at "wk"
      exact qq _ (Same.refl _)
    · obtain ⟨wl, wj⟩ := word_join (x := x) (n := (1 + c / 26 % 12).toNat) (by omega) (by omega) hx2
      rw [map_range_const, show List.replicate (1 + c / 26 % 12).toNat (V.str ⟨#[x]⟩) = (List.replicate (1 + c / 26 % 12).toNat (⟨#[x]⟩ : Str)).map V.str from by rw [List.map_replicate]] at hl
      have e0 : ("" : Str).length = 0 := by decide +kernel
      refine Wk.g_join (SqL.of hl) ?_ ?_
      · rw [rep_sum, e0, List.length_replicate]
        show (1 + c / 26 % 12).toNat * 1 + _ ≤ _
        omega
      have ha : (Txt.join "" (List.replicate (1 + c / 26 % 12).toNat (⟨#[x]⟩ : Str))).length + ("" : Str).length ≤ 100000 := by
        rw [wl, e0]
        omega
      repeat walk_at "wk"
      exact q _ _ _ _ _ (by walk_at "fr") (by walk_at "sm") (word1 hx2) wj (word1 hy2) (by assumption)

theorem ok_law_told (B : Bt mg) (R_law_cell_at : Rd P w K mg base CX0 1 "_law_cell_at" ["_law_script", "_law_k"] (sp_law_cell_at K)) (D : DefAt K mg "_law_told" s_law_told) : Rd P w K mg base CX0 2 "_law_told" ["_law_cells", "_law_names_here"] (sp_law_told K) := by
  refine D.ok sc_law_told (fun _ _ _ _ _ _ us hl => match us, hl with | [_, _], _ => rfl) (fun vs H Q E h => ?_) (fun f cdv A outer s H vs Q E hr h => ?_)
  · obtain ⟨a, b, ns, n1, n2, n3, n4, rfl, _⟩ := h
    rfl
  · obtain ⟨a, b, ns, n1, n2, n3, n4, rfl, hA, hN, v1, v2, v3, v4, hn, q⟩ := h
    refine ⟨_, (pss_cons (ps_set (i := 2) sc_law_told.nd rfl (by first | exact Or.inl rfl | exact Or.inr rfl) (pe_lst pa_nil))
 (pss_cons (ps_set (i := 3) sc_law_told.nd rfl (by first | exact Or.inl rfl | exact Or.inr rfl) (pe_lst (pa_cons (pe_ix ix_seq (pv 1) (pe_op op_mod (pe_callR R_law_cell_at (hr.mono (by decide)) rfl pass0 (pa_cons (pv 0) (pa_cons pe_int pa_nil))) pe_int) (fun _ _ => rfl)) pa_nil)))
 (pss_cons (ps_set (i := 4) sc_law_told.nd rfl (by first | exact Or.inl rfl | exact Or.inr rfl) (pe_op op_sub (pe_op op_mod (pe_op op_fdiv (pe_callR R_law_cell_at (hr.mono (by decide)) rfl pass0 (pa_cons (pv 0) (pa_cons pe_int pa_nil))) pe_int) pe_int) pe_int))
 (pss_cons (ps_for PassesOwn.never rfl (pi_list (pe_slice sl_list (pv 0) (po_some pe_int) po_none)) (pg_name (i := 5) sc_law_told.nd rfl (by first | exact Or.inl rfl | exact Or.inr rfl)) (pss_cons (ps_expr (pe_bm PySem.F.plainAttrs_list PySem.F.slot_list_append PySem.F.type_list_append mt_append (pv 2) (pa_cons (pv 4) pa_nil)))
 (pss_cons (ps_expr (pe_bm PySem.F.plainAttrs_list PySem.F.slot_list_append PySem.F.type_list_append mt_append (pv 3) (pa_cons (pe_ix ix_seq (pv 1) (pe_op op_mod (pv 5) pe_int) (fun _ _ => rfl)) pa_nil)))
 (pss_one (ps_set (i := 4) sc_law_told.nd rfl (by first | exact Or.inl rfl | exact Or.inr rfl) (pe_op op_addA (pv 4) (pe_ix ix_seq (pe_lst (pa_cons pe_int (pa_cons pe_int (pa_cons pe_int (pa_cons pe_int (pa_cons pe_int (pa_cons (pe_op op_pow pe_int pe_int) pa_nil))))))) (pe_op op_mod (pe_op op_fdiv (pv 5) pe_int) pe_int) (fun _ _ => rfl))))))))
 (pss_one (ps_ret (pe_tup (pa_cons (pv 2) (pa_cons (pv 3) pa_nil))))))))), ?_⟩
    change Wk.go _ _ [_, _, none, none, none, none] H
    (try dsimp only [Wk.cxK, Wk.cxKn, Wk.cxW, Wk.cxWn, Wk.cxP, Wk.cxPn])
    obtain ⟨v, hv, hvv⟩ := nm_at (i := ns.getD 0 0 % 4) (by omega) (by omega) v1 v2 v3 v4
    walk_at "go"
    rename_i p1 H1 n1' s1 e1
    refine ⟨a, ns, 0, rfl, by walk_at "sq", ?_⟩
    walk_at "go"
    rename_i p2 H2 n2' s2 e2
    refine ⟨a, ns, 0, rfl, by walk_at "sq", ?_⟩
    walk_at "go"
    rename_i z H3 n3' s3 e3
    rw [cut1, ← List.map_drop] at e3
    have s02 : Same H H2 := Same.via s1 s2
    have s03 : Same H H3 := Same.via s02 s3
    have n12 : p1 ≠ p2 := ne_of_none e1 n2'
    have f2 : H p2 = none := Wk.fresh_back s1 n2'
    have fz : H z = none := Wk.fresh_back s02 n3'
    have nz1 : z ≠ p1 := (ne_of_none (s2 _ _ e1) n3').symm
    have nz2 : z ≠ p2 := (ne_of_none e2 n3').symm
    refine Wk.g_kForL (SqL.of e3)
      (fun i σ' H' => ∃ (y5 : Option V) (place : Int) (ps : List (Int × V)), σ' = [some (.ref a), some (.ref b), some (.ref p1), some (.ref p2), some (.int place), y5] ∧ Same H H' ∧ H' z = some (.lst ((ns.drop 1).map V.int)) ∧
        H' p1 = some (.lst ((cuts ps).map V.int)) ∧ H' p2 = some (.lst (holds v ps)) ∧ ps.length = i ∧ Srt ps ∧ AllHV v ps ∧ (∀ p ∈ ps, -20 ≤ p.1 ∧ p.1 ≤ place) ∧ -20 ≤ place ∧ place ≤ 20 + 10 ^ 25 * (i : Int))
      ⟨none, _, [], rfl, s03, e3, s3 _ _ (s2 _ _ e1), s3 _ _ e2, rfl, List.Pairwise.nil, fun x hx => by rw [List.mem_singleton.mp hx]; exact hvv, (fun p hp => nomatch hp), by omega, by omega⟩ (fun i σ' H' hP => ?_) (fun i x σ' H' hx hP => ?_) (fun σ' H' hP => ?_)
    · obtain ⟨_, _, _, _, _, ez, _⟩ := hP
      exact SqL.of ez
    · obtain ⟨y5, place, ps, rfl, sH, ez, ec, eh, hlen, hsrt, hall, hpl, hp0, hp1⟩ := hP
      obtain ⟨c, hc, rfl⟩ := int_at hx
      have hi : i < ns.length - 1 := by
        have := (List.getElem?_eq_some_iff.mp hc).1
        rw [List.length_drop] at this
        exact this
      obtain ⟨h, hh, hhv⟩ := nm_at (i := c % 4) (by omega) (by omega) v1 v2 v3 v4
      obtain ⟨st, hst, hs0, hs1⟩ := step_at (i := c / 4 % 6) (by omega) (by omega)
      have f1 : H p1 = none := n1'
      walk_at "go"
      rename_i H5 m5 e5 H6 m6 e6 l H7 n7 s7 e7
      have s06 : Same H H6 := Wk.Same.mutd (Wk.Same.mutd sH m5 n1') m6 f2
      refine ⟨_, _, ps ++ [(place, h)], rfl, Same.via s06 s7, s7 _ _ (by rw [m6 z nz2, m5 z nz1]; exact ez), s7 _ _ (by rw [m6 p1 n12, e5, cuts_app, List.map_append] <;> rfl), s7 _ _ (by rw [e6, holds_app]), by rw [List.length_append, List.length_singleton, hlen], ?_, ?_, ?_, by omega, by omega⟩
      · refine List.pairwise_append.mpr ⟨hsrt, List.pairwise_singleton _ _, fun p hp q hq => ?_⟩
        rw [List.mem_singleton.mp hq]
        exact (hpl p hp).2
      · show ∀ x ∈ holds v (ps ++ [(place, h)]), HV x
        rw [holds_app]
        intro x hx
        rcases List.mem_append.mp hx with hx | hx
        · exact hall x hx
        · rw [List.mem_singleton.mp hx]; exact hhv
      · intro p hp
        rcases List.mem_append.mp hp with hp | hp
        · have := hpl p hp
          omega
        · rw [List.mem_singleton.mp hp]
          show -20 ≤ place ∧ place ≤ place + st
          omega
    · obtain ⟨y5, place, ps, rfl, sH, ez, ec, eh, hlen, hsrt, hall, hpl, hp0, hp1⟩ := hP
      rw [List.length_map, List.length_drop] at hlen hp1
      walk_at "go"
      rename_i t H5 n5 s5 e5
      exact q H5 t p1 p2 v ps (Wk.fresh_back sH n5) n1' f2 n12 (Same.via sH s5) ⟨e5, s5 _ _ ec, s5 _ _ eh⟩ ⟨by omega, hsrt, hall, fun p hp => (hpl p hp).1, fun p hp => by have := (hpl p hp).2; omega⟩

theorem ok_law_at (B : Bt mg) (D : DefAt K mg "_law_at" s_law_at) : Rd P w K mg base CX0 1 "_law_at" ["_law_told_here", "_law_place"] (sp_law_at) := by
  refine D.ok sc_law_at (fun _ _ _ _ _ _ us hl => match us, hl with | [_, _], _ => rfl) (fun vs H Q E h => ?_) (fun f cdv A outer s H vs Q E hr h => ?_)
  · obtain ⟨t, lc, lh, v, ps, x, rfl, _⟩ := h
    rfl
  · obtain ⟨t, lc, lh, v, ps, x, rfl, ⟨ht, hc, hh⟩, hn, q⟩ := h
    refine ⟨_, (pss_cons (ps_set (i := 2) sc_law_at.nd rfl (by first | exact Or.inl rfl | exact Or.inr rfl) (pe_ix ix_seq (pe_ix ix_seq (pv 0) pe_int (fun _ _ => rfl)) pe_int (fun _ _ => rfl)))
 (pss_cons (ps_for PassesOwn.never rfl (pi_range1 (by rfl) B.range (pa_cons (pe_callB call_lenA (by rfl) B.len (by decide +kernel) (pa_cons (pe_ix ix_seq (pv 0) pe_int (fun _ _ => rfl)) pa_nil)) pa_nil)) (pg_name (i := 3) sc_law_at.nd rfl (by first | exact Or.inl rfl | exact Or.inr rfl)) (pss_one (ps_if (pt_cmpR op_le (pe_ix ix_seq (pe_ix ix_seq (pv 0) pe_int (fun _ _ => rfl)) (pv 3) (fun _ _ => rfl)) (pv 1) (nomark _)) (pss_one (ps_set (i := 2) sc_law_at.nd rfl (by first | exact Or.inl rfl | exact Or.inr rfl) (pe_ix ix_seq (pe_ix ix_seq (pv 0) pe_int (fun _ _ => rfl)) (pe_op op_addA (pv 3) pe_int) (fun _ _ => rfl)))) pss_nil)))
 (pss_one (ps_ret (pv 2))))), ?_⟩
    change Wk.go _ _ [_, _, none, none] H
    (try dsimp only [Wk.cxK, Wk.cxKn, Wk.cxW, Wk.cxWn, Wk.cxP, Wk.cxPn])
    have h0 : (holds v ps)[0]? = some v := rfl
    have hlen : ((cuts ps).map V.int).length = ps.length := by rw [List.length_map, List.length_map]
    walk_at "go"
    refine Wk.g_kForR (n := ps.length) (by rw [hlen]) (by omega)
      (fun i σ' H' => ∃ (y3 : Option V) (last : V), σ' = [some (.ref t), some (.int x), some last, y3] ∧ Same H H' ∧ at_ last (ps.drop i) x = at_ v ps x)
      ⟨none, v, rfl, Same.refl _, rfl⟩ (fun i σ' H' hi hP => ?_) (fun σ' H' hP => ?_)
    · obtain ⟨y3, last, rfl, sH, e⟩ := hP
      obtain ⟨⟨c, h⟩, hp⟩ : ∃ p, ps[i]? = some p := ⟨_, List.getElem?_eq_getElem hi⟩
      rw [drop_at hp, at_cons] at e
      have hcc : ((cuts ps).map V.int)[i]? = some (.int c) := by rw [List.getElem?_map, List.getElem?_map, hp] <;> rfl
      have hhh : (holds v ps)[i + 1]? = some h := hold_at hp
      have ht' := sH _ _ ht
      have hc' := sH _ _ hc
      have hh' := sH _ _ hh
      walk_at "go"
      refine Wk.g_kIf (fun hb => ?_) (fun hb => ?_)
      · rw [if_pos (of_decide_eq_true hb)] at e
        walk_at "go"
        exact ⟨_, _, rfl, sH, e⟩
      · rw [if_neg (of_decide_eq_false hb)] at e
        walk_at "go"
        exact ⟨_, _, rfl, sH, e⟩
    · obtain ⟨y3, last, rfl, sH, e⟩ := hP
      rw [List.drop_length] at e
      have e : last = at_ v ps x := e
      subst e
      walk_at "go"
      exact q _ sH

theorem ok_law_form (B : Bt mg) (R_law_at : Rd P w K mg base CX0 1 "_law_at" ["_law_told_here", "_law_place"] sp_law_at) (D : DefAt K mg "_law_form" s_law_form) : Rd P w K mg base CX0 2 "_law_form" ["_law_told_here"] sp_law_form := by
  refine D.ok sc_law_form (fun _ _ _ _ _ _ us hl => match us, hl with | [_], _ => rfl) (fun vs H Q E h => ?_) (fun f cdv A outer s H vs Q E hr h => ?_)
  · obtain ⟨t, lc, lh, v, ps, rfl, _⟩ := h
    rfl
  · obtain ⟨t, lc, lh, v, ps, rfl, T, hv, hs, hn, q⟩ := h
    refine ⟨_, (pss_cons (ps_set (i := 1) sc_law_form.nd rfl (by first | exact Or.inl rfl | exact Or.inr rfl) (pe_lst pa_nil))
 (pss_cons (ps_set (i := 2) sc_law_form.nd rfl (by first | exact Or.inl rfl | exact Or.inr rfl) (pe_lst (pa_cons (pe_ix ix_seq (pe_ix ix_seq (pv 0) pe_int (fun _ _ => rfl)) pe_int (fun _ _ => rfl)) pa_nil)))
 (pss_cons (ps_for PassesOwn.never rfl (pi_list (pe_callB (call_sortedA rfl) (by rfl) B.sorted (by decide +kernel) (pa_cons (pe_callTy (call_setA rfl) (by rfl) B.set (by decide +kernel) (pa_cons (pe_ix ix_seq (pv 0) pe_int (fun _ _ => rfl)) pa_nil)) pa_nil))) (pg_name (i := 3) sc_law_form.nd rfl (by first | exact Or.inl rfl | exact Or.inr rfl)) (pss_cons (ps_set (i := 4) sc_law_form.nd rfl (by first | exact Or.inl rfl | exact Or.inr rfl) (pe_callR R_law_at (hr.mono (by decide)) rfl pass0 (pa_cons (pv 0) (pa_cons (pv 3) pa_nil))))
 (pss_one (ps_if (pt_cmpR (op_neA hr.units) (pv 4) (pe_ix ix_seq (pv 2) (pe_un un_neg pe_int) (fun _ _ => rfl)) (nomark _)) (pss_cons (ps_expr (pe_bm PySem.F.plainAttrs_list PySem.F.slot_list_append PySem.F.type_list_append mt_append (pv 1) (pa_cons (pv 3) pa_nil)))
 (pss_one (ps_expr (pe_bm PySem.F.plainAttrs_list PySem.F.slot_list_append PySem.F.type_list_append mt_append (pv 2) (pa_cons (pv 4) pa_nil))))) pss_nil))))
 (pss_one (ps_ret (pe_tup (pa_cons (pv 1) (pa_cons (pv 2) pa_nil)))))))), ?_⟩
    change Wk.go _ _ [_, none, none, none, none] H
    (try dsimp only [Wk.cxK, Wk.cxKn, Wk.cxW, Wk.cxWn, Wk.cxP, Wk.cxPn])
    obtain ⟨ht, hc, hh⟩ := id T
    have h0 : (holds v ps)[0]? = some v := rfl
    walk_at "go"
    rename_i p1 H1 n1 s1 e1 p2 H2 n2 s2 e2
    have s02 : Same H H2 := Same.via s1 s2
    refine Wk.g_set (ns := cuts ps) (SqL.of (s02 _ _ hc)) (by rw [List.length_map]; exact hn) fun r c H3 n3 s3 e3 hcl => ?_
    walk_at "go"
    refine Wk.g_sortedset e3 hcl (by rw [List.length_map]; exact hn) fun es z H4 hp hm hl n4 s4 e4 => ?_
    have hl' : es.length ≤ 1000 := by rw [List.length_map] at hl; omega
    have n12 : p1 ≠ p2 := ne_of_none e1 n2
    have f2 : H p2 = none := Wk.fresh_back s1 n2
    have s04 : Same H H4 := Same.via s02 (Same.via s3 s4)
    have fz : H z = none := Wk.fresh_back (Same.via s02 s3) n4
    have nz1 : z ≠ p1 := (ne_of_none ((Same.via s2 s3) _ _ e1) n4).symm
    have nz2 : z ≠ p2 := (ne_of_none (s3 _ _ e2) n4).symm
    refine Wk.g_kForL (SqL.of e4)
      (fun i σ' H' => ∃ (y3 y4 : Option V) (acc : List (Int × V)) (last : V), σ' = [some (.ref t), some (.ref p1), some (.ref p2), y3, y4] ∧ Same H H' ∧ H' z = some (.lst (es.map V.int)) ∧ H' p1 = some (.lst ((cuts acc).map V.int)) ∧ H' p2 = some (.lst (holds v acc)) ∧
        (holds v acc)[acc.length]? = some last ∧ HV last ∧ acc.length ≤ i ∧ acc ++ walkE (at_ v ps) last (es.drop i) = keep v ps)
      ⟨none, none, [], v, rfl, s04, e4, s4 _ _ (s3 _ _ (s2 _ _ e1)), s4 _ _ (s3 _ _ e2), rfl, hv _ List.mem_cons_self, Nat.zero_le _, (keep_is hp hm hs).symm⟩ (fun i σ' H' hP => ?_) (fun i x σ' H' hx hP => ?_) (fun σ' H' hP => ?_)
    · obtain ⟨_, _, _, _, _, _, ez, _⟩ := hP
      exact SqL.of ez
    · obtain ⟨y3, y4, acc, last, rfl, sH, ez, ec, eh, hlast, hvl, hacc, hk⟩ := hP
      obtain ⟨e, he, rfl⟩ : ∃ e, es[i]? = some e ∧ x = .int e := by
        rw [List.getElem?_map] at hx
        cases q : es[i]? with
        | none => rw [q] at hx; cases hx
        | some e => rw [q] at hx; exact ⟨e, rfl, (Option.some.inj hx).symm⟩
      obtain ⟨hi, he2⟩ := List.getElem?_eq_some_iff.mp he
      rw [List.drop_eq_getElem_cons hi, he2, walkE] at hk
      have hl1 : atI (holds v acc) (-1) = some last := by
        rw [last_hold hlast]
        exact atI_last _ _
      walk_at "go"
      refine ⟨t, lc, lh, v, ps, e, rfl, T.same sH, hn, fun H5 s5 => ?_⟩
      have ec5 := s5 _ _ ec
      have eh5 := s5 _ _ eh
      have s05 := Same.via sH s5
      have hve : HV (at_ v ps e) := hv _ at_mem
      walk_at "go"
      refine Wk.g_neV (hve.scal hvl) ?_
      walk_at "go"
      refine Wk.g_kIf (fun hb => ?_) (fun hb => ?_)
      · have hb : at_ v ps e ≠ last := by
          intro z
          rw [decide_eq_true z] at hb
          cases hb
        rw [if_neg hb] at hk
        walk_at "go"
        rename_i H6 m6 e6 H7 m7 e7
        have hz7 : H7 z = some (.lst (es.map V.int)) := by rw [m7 z nz2, m6 z nz1]; exact s5 _ _ ez
        refine ⟨_, _, acc ++ [(e, at_ v ps e)], _, rfl, Wk.Same.mutd (Wk.Same.mutd s05 m6 n1) m7 f2, hz7, ?_, ?_, ?_, hve, by rw [List.length_append, List.length_singleton]; omega, by rw [List.append_assoc]; exact hk⟩
        · rw [m7 p1 n12, e6, cuts_app, List.map_append] <;> rfl
        · rw [e7, holds_app]
        · rw [holds_app, List.getElem?_append_right (by simp [holds]), List.length_append, List.length_singleton] <;> simp [holds]
      · have hb : at_ v ps e = last := by
          cases hd : decide (at_ v ps e = last) with
          | true => exact of_decide_eq_true hd
          | false => rw [hd] at hb; cases hb
        rw [if_pos hb] at hk
        walk_at "go"
        exact ⟨_, _, acc, last, rfl, s05, s5 _ _ ez, ec5, eh5, hlast, hvl, by omega, hk⟩
    · obtain ⟨y3, y4, acc, last, rfl, sH, ez, ec, eh, hlast, hvl, hacc, hk⟩ := hP
      rw [List.length_map, List.drop_length, walkE, List.append_nil] at hk
      subst hk
      walk_at "go"
      rename_i u H5 n5 s5 e5
      exact q H5 u p1 p2 (Wk.fresh_back sH n5) n1 f2 n12 (Same.via sH s5) ⟨e5, s5 _ _ ec, s5 _ _ eh⟩

theorem ok_law_whole (B : Bt mg) (D : DefAt K mg "_law_whole" s_law_whole) : Rd P w K mg base CX0 1 "_law_whole" ["_law_found"] sp_law_whole := by
  refine D.ok sc_law_whole (fun _ _ _ _ _ _ us hl => match us, hl with | [_], _ => rfl) (fun vs H Q E h => ?_) (fun f cdv A outer s H vs Q E hr h => ?_)
  · obtain ⟨i, rfl, _⟩ := h
    rfl
  · obtain ⟨i, rfl, q⟩ := h
    refine ⟨_, (pss_one (ps_ret (pe_and (pe_callB call_isiA (by rfl) B.isinstance (by decide +kernel) (pa_cons (pv 0) (pa_cons (pe_bltn (by rfl) B.int (by decide +kernel) (v := .ty "int") rfl) pa_nil))) (pe_one (pe_not (pe_callB call_isiA (by rfl) B.isinstance (by decide +kernel) (pa_cons (pv 0) (pa_cons (pe_bltn (by rfl) B.bool (by decide +kernel) (v := .ty "bool") rfl) pa_nil)))))))), ?_⟩
    change Wk.go _ _ [_] H
    (try dsimp only [Wk.cxK, Wk.cxKn, Wk.cxW, Wk.cxWn, Wk.cxP, Wk.cxPn])
    repeat walk_at "wk"
    refine g_kAndV (fun _ => ?_) (fun z => nomatch z)
    repeat walk_at "wk"
    exact q

theorem ok_law_held (B : Bt mg) (D : DefAt K mg "_law_held" s_law_held) : Rd P w K mg base CX0 1 "_law_held" ["_law_found", "_law_due"] sp_law_held := by
  refine D.ok sc_law_held (fun _ _ _ _ _ _ us hl => match us, hl with | [_, _], _ => rfl) (fun vs H Q E h => ?_) (fun f cdv A outer s H vs Q E hr h => ?_)
  · obtain ⟨v, rfl, _⟩ := h
    rfl
  · obtain ⟨v, rfl, hv, q⟩ := h
    refine ⟨_, (pss_cons (ps_if (pt_cmpR op_isN' (pv 1) pe_non (nomark _)) (pss_one (ps_ret (pe_cmpR op_isN' (pv 0) pe_non (nomark _)))) pss_nil)
 (pss_one (ps_ret (pe_and (pe_callB call_isiA (by rfl) B.isinstance (by decide +kernel) (pa_cons (pv 0) (pa_cons (pe_bltn (by rfl) B.str (by decide +kernel) (v := .ty "str") rfl) pa_nil))) (pe_one (pe_cmpR (op_eqA hr.units) (pv 0) (pv 1) (nomark _))))))), ?_⟩
    change Wk.go _ _ [_, _] H
    (try dsimp only [Wk.cxK, Wk.cxKn, Wk.cxW, Wk.cxWn, Wk.cxP, Wk.cxPn])
    rcases hv with rfl | ⟨z, hz, rfl⟩
    · repeat walk_at "wk"
      exact q
    · repeat walk_at "wk"
      refine g_kAndV (fun _ => ?_) (fun z => nomatch z)
      repeat walk_at "wk"
      rw [decide_eq_true (rfl : z = z)]
      exact q

theorem ok_law_line {C fI : Addr} (B : Bt mg) (L : LineC K mg C fI) (R_law_whole : Rd P w K mg base CX0 1 "_law_whole" ["_law_found"] sp_law_whole) (R_law_held : Rd P w K mg base CX0 1 "_law_held" ["_law_found", "_law_due"] sp_law_held) (D : DefAt K mg "_law_line" s_law_line) : Rd P w K mg base CX0 2 "_law_line" ["_law_found", "_law_due"] (sp_law_line C) := by
  refine D.ok sc_law_line (fun _ _ _ _ _ _ us hl => match us, hl with | [_, _], _ => rfl) (fun vs H Q E h => ?_) (fun f cdv A outer s H vs Q E hr h => ?_)
  · obtain ⟨p, t, lc, lh, v, ps, rfl, _⟩ := h
    rfl
  · obtain ⟨p, t, lc, lh, v, ps, rfl, hL, T, hv, hn, q⟩ := h
    refine ⟨_, (pss_cons (ps_if (PW.pt (pw_or (pt_not (pt_val (pe_callB call_isiA (by rfl) B.isinstance (by decide +kernel) (pa_cons (pv 0) (pa_cons (pe_glob (v := .ref C) rfl L.mgC rfl) pa_nil))))) (pw_or (pt_not (pt_val (pe_callB call_isiA (by rfl) B.isinstance (by decide +kernel) (pa_cons (pe_fld (pv 0) rfl) (pa_cons (pe_bltn (by rfl) B.list (by decide +kernel) (v := .ty "list") rfl) pa_nil))))) (pw_or1 (pt_not (pt_val (pe_callB call_isiA (by rfl) B.isinstance (by decide +kernel) (pa_cons (pe_fld (pv 0) rfl) (pa_cons (pe_bltn (by rfl) B.list (by decide +kernel) (v := .ty "list") rfl) pa_nil))))))))) (pss_one (ps_ret pe_bl)) pss_nil)
 (pss_cons (ps_if (PW.pt (pw_or (pt_cmpR (op_neA hr.units) (pe_callB call_lenA (by rfl) B.len (by decide +kernel) (pa_cons (pe_fld (pv 0) rfl) pa_nil)) (pe_callB call_lenA (by rfl) B.len (by decide +kernel) (pa_cons (pe_ix ix_seq (pv 1) pe_int (fun _ _ => rfl)) pa_nil)) (nomark _)) (pw_or1 (pt_cmpR (op_neA hr.units) (pe_callB call_lenA (by rfl) B.len (by decide +kernel) (pa_cons (pe_fld (pv 0) rfl) pa_nil)) (pe_callB call_lenA (by rfl) B.len (by decide +kernel) (pa_cons (pe_ix ix_seq (pv 1) pe_int (fun _ _ => rfl)) pa_nil)) (nomark _))))) (pss_one (ps_ret pe_bl)) pss_nil)
 (pss_cons (ps_for PassesOwn.never rfl (pi_range1 (by rfl) B.range (pa_cons (pe_callB call_lenA (by rfl) B.len (by decide +kernel) (pa_cons (pe_ix ix_seq (pv 1) pe_int (fun _ _ => rfl)) pa_nil)) pa_nil)) (pg_name (i := 2) sc_law_line.nd rfl (by first | exact Or.inl rfl | exact Or.inr rfl)) (pss_one (ps_if (PW.pt (pw_or (pt_not (pt_val (pe_callR R_law_whole (hr.mono (by decide)) rfl pass0 (pa_cons (pe_ix ix_seq (pe_fld (pv 0) rfl) (pv 2) (fun _ _ => rfl)) pa_nil)))) (pw_or1 (pt_cmpR (op_neA hr.units) (pe_ix ix_seq (pe_fld (pv 0) rfl) (pv 2) (fun _ _ => rfl)) (pe_ix ix_seq (pe_ix ix_seq (pv 1) pe_int (fun _ _ => rfl)) (pv 2) (fun _ _ => rfl)) (nomark _))))) (pss_one (ps_ret pe_bl)) pss_nil)))
 (pss_cons (ps_for PassesOwn.never rfl (pi_range1 (by rfl) B.range (pa_cons (pe_callB call_lenA (by rfl) B.len (by decide +kernel) (pa_cons (pe_ix ix_seq (pv 1) pe_int (fun _ _ => rfl)) pa_nil)) pa_nil)) (pg_name (i := 2) sc_law_line.nd rfl (by first | exact Or.inl rfl | exact Or.inr rfl)) (pss_one (ps_if (pt_not (pt_val (pe_callR R_law_held (hr.mono (by decide)) rfl pass0 (pa_cons (pe_ix ix_seq (pe_fld (pv 0) rfl) (pv 2) (fun _ _ => rfl)) (pa_cons (pe_ix ix_seq (pe_ix ix_seq (pv 1) pe_int (fun _ _ => rfl)) (pv 2) (fun _ _ => rfl)) pa_nil))))) (pss_one (ps_ret pe_bl)) pss_nil)))
 (pss_one (ps_ret pe_bl)))))), ?_⟩
    change Wk.go _ _ [_, _, none] H
    (try dsimp only [Wk.cxK, Wk.cxKn, Wk.cxW, Wk.cxWn, Wk.cxP, Wk.cxPn])
    obtain ⟨ht, hc, hh⟩ := id T
    obtain ⟨dx, mc, mh, hi, hmc, hmh⟩ := id hL
    have fC : ∀ {Q : VK} {H' : Hp}, Same H H' → Q (.ref mc) H' → Wk.kFld K "cuts" Q (.ref p) H' := fun sH q => ⟨p, C, dx, _, _, rfl, sH _ _ hi, L.cl, L.nC, lf_cuts _ _, q⟩
    have fH : ∀ {Q : VK} {H' : Hp}, Same H H' → Q (.ref mh) H' → Wk.kFld K "holds" Q (.ref p) H' := fun sH q => ⟨p, C, dx, _, _, rfl, sH _ _ hi, L.cl, L.nH, lf_holds _ _, q⟩
    have hlen : ((cuts ps).map V.int).length = ps.length := by rw [List.length_map, List.length_map]
    have hlen2 : (holds v ps).length = ps.length + 1 := by simp [holds]
    walk_at "go"
    refine Wk.g_isiC L hL ?_
    walk_at "go"
    refine fC (Same.refl _) ?_
    walk_at "go"
    refine fH (Same.refl _) ?_
    walk_at "go"
    refine fC (Same.refl _) ?_
    walk_at "go"
    refine Wk.g_kOrF (by simp) ?_
    walk_at "go"
    refine fH (Same.refl _) ?_
    walk_at "go"
    refine Wk.g_kIfF (by simp) ?_
    walk_at "go"
    refine Wk.g_kForR (n := ps.length) (by rw [hlen]) (by omega) (fun i σ' H' => ∃ y2 : Option V, σ' = [some (.ref p), some (.ref t), y2] ∧ Same H H') ⟨none, rfl, Same.refl _⟩ (fun i σ' H1 hi hP => ?_) (fun σ' H1 hP => ?_)
    · obtain ⟨y2, rfl, sH⟩ := hP
      obtain ⟨⟨c, h⟩, hp⟩ : ∃ p, ps[i]? = some p := ⟨_, List.getElem?_eq_getElem hi⟩
      have hcc : ((cuts ps).map V.int)[i]? = some (.int c) := by rw [List.getElem?_map, List.getElem?_map, hp] <;> rfl
      have hmc' := sH _ _ hmc
      have ht' := sH _ _ ht
      have hc' := sH _ _ hc
      walk_at "go"
      refine fC sH ?_
      walk_at "go"
      refine ⟨c, rfl, ?_⟩
      walk_at "go"
      refine fC sH ?_
      walk_at "go"
      refine Wk.g_kIfF (by simp) ?_
      walk_at "go"
      exact ⟨_, rfl, sH⟩
    · obtain ⟨y2, rfl, sH⟩ := hP
      have ht1 := sH _ _ ht
      have hh1 := sH _ _ hh
      walk_at "go"
      refine Wk.g_kForR (n := ps.length + 1) (by rw [hlen2]) (by omega) (fun i σ' H' => ∃ y2 : Option V, σ' = [some (.ref p), some (.ref t), y2] ∧ Same H H') ⟨y2, rfl, sH⟩ (fun i σ' H2 hi hP => ?_) (fun σ' H2 hP => ?_)
      · obtain ⟨y3, rfl, sH2⟩ := hP
        obtain ⟨h, hp⟩ : ∃ h, (holds v ps)[i]? = some h := ⟨_, List.getElem?_eq_getElem (by omega)⟩
        have hmh' := sH2 _ _ hmh
        have ht' := sH2 _ _ ht
        have hh' := sH2 _ _ hh
        walk_at "go"
        refine fH sH2 ?_
        walk_at "go"
        refine ⟨h, rfl, hv h (List.mem_of_getElem? hp), ?_⟩
        walk_at "go"
        exact ⟨_, rfl, sH2⟩
      · obtain ⟨y3, rfl, sH2⟩ := hP
        walk_at "go"
        exact q _ sH2

/-- the j-th def in it -/
abbrev nst (j : Nat) : Stmt := (defBody s_law_way).getD j (.Pass ⟨0, 0, 0, 0⟩)
/-- the names of the code objects, by their lines -/
def nmW (l _c : Nat) : Str := (("_law_way" : Str) ++ ".<locals>.") ++ (if l = 83 then ("_law_over" : Str) else if l = 88 then ("_law_alike" : Str) else if l = 93 then ("_law_without" : Str) else ("_law_always" : Str))
open LamX NdefX in
theorem ok_over {f : Addr} {q : Str} {cl : List (Str × Addr)} {c' : Addr} : NOk P w K mg base CX0 1 f (NF.of (nst 0) "_law_over" q cl c') ["_law_one", "_law_other"] [] (fun _ => spWay overV) := by
  refine nok_of (N := ["_law_one", "_law_other"]) (nscope_by (show nscB _ _ _ (C8.fnScope (nst 0)) = true from by decide +kernel)) (fun doc pm ctv us hl => match us, hl with | [_, _], _ => rfl) (fun ws vs H Q E h => ?_) (fun A outer s H vs ws Q E hr hf hc hws h => ?_)
  · obtain ⟨x, y, rfl, _⟩ := h
    rfl
  · obtain ⟨x, y, rfl, hx, hy, hq⟩ := h
    obtain rfl : ws = [] := List.eq_nil_of_length_eq_zero hws
    refine ⟨_, (pss_cons (ps_if (pt_cmpR op_notN' (pv 0) pe_non (nomark _)) (pss_one (ps_ret (pv 0))) pss_nil) (pss_one (ps_ret (pv 1)))), ?_⟩
    change Wk.go _ _ [some x, some y] H
    walk_at "go"
    refine Wk.g_kIf (fun hb => ?_) (fun hb => ?_)
    · walk_at "go"
      have e : overV x y = x := by
        rw [Bool.not_eq_true', decide_eq_false_iff_not] at hb
        exact if_neg hb
      rw [e] at hq
      exact hq
    · walk_at "go"
      have e : overV x y = y := by
        rw [Bool.not_eq_false', decide_eq_true_eq] at hb
        exact if_pos hb
      rw [e] at hq
      exact hq
open LamX NdefX in
theorem ok_alike {f : Addr} {q : Str} {cl : List (Str × Addr)} {c' : Addr} : NOk P w K mg base CX0 1 f (NF.of (nst 1) "_law_alike" q cl c') ["_law_one", "_law_other"] [] (fun _ => spWay bothV) := by
  refine nok_of (N := ["_law_one", "_law_other"]) (nscope_by (show nscB _ _ _ (C8.fnScope (nst 1)) = true from by decide +kernel)) (fun doc pm ctv us hl => match us, hl with | [_, _], _ => rfl) (fun ws vs H Q E h => ?_) (fun A outer s H vs ws Q E hr hf hc hws h => ?_)
  · obtain ⟨x, y, rfl, _⟩ := h
    rfl
  · obtain ⟨x, y, rfl, hx, hy, hq⟩ := h
    obtain rfl : ws = [] := List.eq_nil_of_length_eq_zero hws
    refine ⟨_, (pss_cons (ps_if (pt_cmpR (op_eqA hr.units) (pv 0) (pv 1) (nomark _)) (pss_one (ps_ret (pv 0))) pss_nil) (pss_one (ps_ret pe_non))), ?_⟩
    change Wk.go _ _ [some x, some y] H
    walk_at "go"
    refine Wk.g_eqV (hx.scal hy) ?_
    walk_at "go"
    refine Wk.g_kIf (fun hb => ?_) (fun hb => ?_)
    · walk_at "go"
      have e : bothV x y = x := if_pos (of_decide_eq_true hb)
      rw [e] at hq
      exact hq
    · walk_at "go"
      have e : bothV x y = .non := if_neg (of_decide_eq_false hb)
      rw [e] at hq
      exact hq
open LamX NdefX in
theorem ok_without {f : Addr} {q : Str} {cl : List (Str × Addr)} {c' : Addr} : NOk P w K mg base CX0 1 f (NF.of (nst 2) "_law_without" q cl c') ["_law_one", "_law_other"] [] (fun _ => spWay lackV) := by
  refine nok_of (N := ["_law_one", "_law_other"]) (nscope_by (show nscB _ _ _ (C8.fnScope (nst 2)) = true from by decide +kernel)) (fun doc pm ctv us hl => match us, hl with | [_, _], _ => rfl) (fun ws vs H Q E h => ?_) (fun A outer s H vs ws Q E hr hf hc hws h => ?_)
  · obtain ⟨x, y, rfl, _⟩ := h
    rfl
  · obtain ⟨x, y, rfl, hx, hy, hq⟩ := h
    obtain rfl : ws = [] := List.eq_nil_of_length_eq_zero hws
    refine ⟨_, (pss_cons (ps_if (pt_cmpR op_isN' (pv 0) pe_non (nomark _)) (pss_one (ps_ret (pv 1))) pss_nil) (pss_one (ps_ret pe_non))), ?_⟩
    change Wk.go _ _ [some x, some y] H
    walk_at "go"
    refine Wk.g_kIf (fun hb => ?_) (fun hb => ?_)
    · walk_at "go"
      have e : lackV x y = y := if_pos (of_decide_eq_true hb)
      rw [e] at hq
      exact hq
    · walk_at "go"
      have e : lackV x y = .non := if_neg (of_decide_eq_false hb)
      rw [e] at hq
      exact hq
open LamX NdefX in
theorem ok_always {f : Addr} {q : Str} {cl : List (Str × Addr)} {c' : Addr} : NOk P w K mg base CX0 1 f (NF.of (nst 3) "_law_always" q cl c') ["_law_one", "_law_other"] ["_law_names_here"] (spAlw K) := by
  refine nok_of (N := ["_law_one", "_law_other", "_law_names_here"]) (nscope_by (show nscB _ _ _ (C8.fnScope (nst 3)) = true from by decide +kernel)) (fun doc pm ctv us hl => match us, hl with | [_, _], _ => rfl) (fun ws vs H Q E h => ?_) (fun A outer s H vs ws Q E hr hf hc hws h => ?_)
  · obtain ⟨l, xs, z, x, y, _, rfl, _⟩ := h
    rfl
  · obtain ⟨l, xs, z, x, y, rfl, rfl, hl, hz, hq⟩ := h
    refine ⟨_, (pss_one (ps_ret (pe_ix (ix_seqK (K := K) rfl) (pv 2) pe_int (fun _ _ => rfl)))), ?_⟩
    change Wk.go _ _ [some x, some y, some (.ref l)] H
    walk_at "go"
    exact hq
open LamX NdefX in
theorem ok_law_way {c Pt : Addr} (TB : TabB base mg c Pt) (D : DefAtC K mg "_law_way" s_law_way c) : Rd P w K mg base CX0 2 "_law_way" ["_law_number", "_law_names_here"] (sp_law_way P w K mg base [(Pt, nmW)]) := by
  refine D.okW (i := 1) (n := "_law_names_here") sc_law_way (fun _ _ _ _ _ _ us hl => match us, hl with | [_, _], _ => rfl) rfl (by decide +kernel) (fun vs H Q E h => ?_) (fun f A outer s H vs Q E hr h => ?_)
  · obtain ⟨n, l, xs, z, rfl, _⟩ := h
    rfl
  · obtain ⟨n, l, xs, z, rfl, hn, hl, hz, hT, q⟩ := h
    refine ⟨_, (psr_cons (ps_ndefS (T := [(Pt, nmW)]) (nm := nmW) (st := nst 0) (name := "_law_over") (pos := ⟨83, 4, 86, 25⟩) (i := 2) rfl TB rfl (List.mem_singleton.mpr rfl) rfl (fun p hp e => by rw [List.mem_singleton.mp hp]) (ndef_free (fr := []) (show ndefB (defScope s_law_way) (C8.fnScope (nst 0)) [] = true from by decide +kernel)) rfl rfl rfl sc_law_way.nd rfl (Or.inl rfl) (Or.inl rfl))
      (psr_cons (ps_ndefS (T := [(Pt, nmW)]) (nm := nmW) (st := nst 1) (name := "_law_alike") (pos := ⟨88, 4, 91, 19⟩) (i := 3) rfl TB rfl (List.mem_singleton.mpr rfl) rfl (fun p hp e => by rw [List.mem_singleton.mp hp]) (ndef_free (fr := []) (show ndefB (defScope s_law_way) (C8.fnScope (nst 1)) [] = true from by decide +kernel)) rfl rfl rfl sc_law_way.nd rfl (Or.inl rfl) (Or.inl rfl))
      (psr_cons (ps_ndefS (T := [(Pt, nmW)]) (nm := nmW) (st := nst 2) (name := "_law_without") (pos := ⟨93, 4, 96, 19⟩) (i := 4) rfl TB rfl (List.mem_singleton.mpr rfl) rfl (fun p hp e => by rw [List.mem_singleton.mp hp]) (ndef_free (fr := []) (show ndefB (defScope s_law_way) (C8.fnScope (nst 2)) [] = true from by decide +kernel)) rfl rfl rfl sc_law_way.nd rfl (Or.inl rfl) (Or.inl rfl))
      (psr_cons (ps_ndefS (T := [(Pt, nmW)]) (nm := nmW) (st := nst 3) (name := "_law_always") (pos := ⟨98, 4, 99, 33⟩) (i := 5) rfl TB rfl (List.mem_singleton.mpr rfl) rfl (fun p hp e => by rw [List.mem_singleton.mp hp]) (ndef_free (fr := ["_law_names_here"]) (show ndefB (defScope s_law_way) (C8.fnScope (nst 3)) ["_law_names_here"] = true from by decide +kernel)) rfl rfl rfl sc_law_way.nd rfl (Or.inl rfl) (Or.inl rfl))
      (psr_ret (pe_ix (ix_seqK (K := K) rfl) (pe_lst (pa_cons (pv 2) (pa_cons (pv 3) (pa_cons (pv 4) (pa_cons (pv 5) pa_nil))))) (pv 0) (fun _ _ => rfl))))))), ?_⟩
    refine g_rSeq (g_ndef hT fun f0 c0 H1 x1 T1 n1 a1 b1 => ?_)
    refine g_rSeq (g_ndef T1 fun f1 c1 H2 x2 T2 n2 a2 b2 => ?_)
    refine g_rSeq (g_ndef T2 fun f2 c2 H3 x3 T3 n3 a3 b3 => ?_)
    refine g_rSeq (g_ndef T3 fun f3 c3 H4 x4 T4 n4 a4 b4 => ?_)
    refine g_rRet ?_
    have y2 := x3.trans x4
    have y1 := x2.trans y2
    have y0 := x1.trans y1
    have hl4 := y0 _ _ hl (fun _ z => nomatch z)
    have a14 := y1 _ _ a1 (fnO_ne)
    have b14 := y1 _ _ b1 codeO_ne
    have a24 := y2 _ _ a2 (fnO_ne)
    have b24 := y2 _ _ b2 codeO_ne
    have a34 := x4 _ _ a3 (fnO_ne)
    have b34 := x4 _ _ b3 codeO_ne
    have fin : ∀ (H5 : Hp) (g : Addr), Same H4 H5 → (∀ a, (cellsFrom (s.heap.objs.size + 1) (defScope s_law_way).names []).lookup ("_law_names_here" : Str) = some a → H5 a = none → WayAt P w K mg base 1 (wayV z n) g (upd H5 a (CellO a l))) →
        ∃ l', [some (V.int (n : Int)), some (V.ref l), some (V.ref f0), some (V.ref f1), some (V.ref f2), some (V.ref f3)][1]? = some (some (.ref l')) ∧ ∀ a, (cellsFrom (s.heap.objs.size + 1) (defScope s_law_way).names []).lookup ("_law_names_here" : Str) = some a → H5 a = none → Q (.ref g) (upd H5 a (CellO a l')) := fun H5 g s5 hw => by
      refine ⟨l, rfl, fun a ha na => q _ g (fun b o hb ht => ?_) ?_ (hw a ha na)⟩
      · have e5 := s5 _ _ (y0 _ _ hb ht)
        rw [upd_ne (ne_of_none e5 na)]
        exact e5
      · exact (T4.ext fun b o e => s5 b o e).ext fun b o e => by rw [upd_ne (ne_of_none e na)]; exact e
    walk_at "go"
    rename_i p H5 n5 s5 e5
    have kp : ∀ {b a : Addr} {o u : HO}, H4 b = some o → H5 a = Option.none → upd H5 a u b = some o := fun {b a o u} hb na => by
      have e := s5 _ _ hb
      rw [upd_ne (ne_of_none e na)]
      exact e
    have hn4 : n = 0 ∨ n = 1 ∨ n = 2 ∨ n = 3 := by omega
    rcases hn4 with rfl | rfl | rfl | rfl
    · refine Wk.g_ixL (SqL.of e5) (v := .ref f0) rfl ?_
      exact fin H5 f0 s5 fun a ha na => ⟨_, _, kp a14 na, kp b14 na, .inl ⟨rfl, ok_over⟩⟩
    · refine Wk.g_ixL (SqL.of e5) (v := .ref f1) rfl ?_
      exact fin H5 f1 s5 fun a ha na => ⟨_, _, kp a24 na, kp b24 na, .inl ⟨rfl, ok_alike⟩⟩
    · refine Wk.g_ixL (SqL.of e5) (v := .ref f2) rfl ?_
      exact fin H5 f2 s5 fun a ha na => ⟨_, _, kp a34 na, kp b34 na, .inl ⟨rfl, ok_without⟩⟩
    · refine Wk.g_ixL (SqL.of e5) (v := .ref f3) rfl ?_
      exact fin H5 f3 s5 fun a ha na => ⟨_, _, kp a4 na, kp b4 na, .inr ⟨"_law_names_here", a, l, xs, z, (by
        show [(("_law_names_here" : Str), ((cellsFrom (s.heap.objs.size + 1) (defScope s_law_way).names []).lookup ("_law_names_here" : Str)).getD 0)] = _
        rw [ha] <;> rfl), upd_same, SqL.of (kp hl4 na), hz, fun _ _ => rfl, ok_always⟩⟩

open LamX NdefX in
theorem ok_law {C fI Pt : Addr} (B : Bt mg) (L : LineC K mg C fI)
    (R_line_of : Rd P w K mg base CX0 3 "line_of" ["cuts", "holds"] (sp_line_of K C)) (R_joined : Rd P w K mg base CX0 4 "joined" ["one", "other", "way"] (sp_joinedW P w K mg base C))
    (R_law_cell_at : Rd P w K mg base CX0 1 "_law_cell_at" ["_law_script", "_law_k"] (sp_law_cell_at K)) (R_law_names : Rd P w K mg base CX0 1 "_law_names" ["_law_cell"] sp_law_names)
    (R_law_told : Rd P w K mg base CX0 2 "_law_told" ["_law_cells", "_law_names_here"] (sp_law_told K)) (R_law_at : Rd P w K mg base CX0 1 "_law_at" ["_law_told_here", "_law_place"] sp_law_at) (R_law_form : Rd P w K mg base CX0 2 "_law_form" ["_law_told_here"] sp_law_form)
    (R_law_line : Rd P w K mg base CX0 2 "_law_line" ["_law_found", "_law_due"] (sp_law_line C)) (R_law_way : Rd P w K mg base CX0 2 "_law_way" ["_law_number", "_law_names_here"] (sp_law_way P w K mg base [(Pt, nmW)]))
    {f : Addr} {fd : FuncData} (F : Fun K "law" "law" s_law f fd) : FnOk P w K mg base CX0 5 f fd ["_law_script"] (sp_lawT K [(Pt, nmW)]) := by
  refine fun_ok F sc_law (fun vs H Q E h => ?_) (fun cdv A outer s H vs Q E hr h => ?_)
  · obtain ⟨a, ns, rfl, _⟩ := h
    rfl
  · obtain ⟨a, ns, rfl, hS, hn, hT, q⟩ := h
    refine ⟨_, (pss_cons (ps_set (i := 1) sc_law.nd rfl (by first | exact Or.inl rfl | exact Or.inr rfl) (pe_callR R_law_names (hr.mono (by decide)) rfl pass0 (pa_cons (pe_callR R_law_cell_at (hr.mono (by decide)) rfl pass0 (pa_cons (pv 0) (pa_cons pe_int pa_nil))) pa_nil)))
 (pss_cons (ps_set (i := 2) sc_law.nd rfl (by first | exact Or.inl rfl | exact Or.inr rfl) (pe_callR R_law_told (hr.mono (by decide)) rfl pass0 (pa_cons (pe_slice sl_list (pv 0) (po_some pe_int) (po_some pe_int)) (pa_cons (pv 1) pa_nil))))
 (pss_cons (ps_set (i := 3) sc_law.nd rfl (by first | exact Or.inl rfl | exact Or.inr rfl) (pe_callR R_law_told (hr.mono (by decide)) rfl pass0 (pa_cons (pe_slice sl_list (pv 0) (po_some pe_int) (po_some pe_int)) (pa_cons (pv 1) pa_nil))))
 (pss_cons (ps_set (i := 4) sc_law.nd rfl (by first | exact Or.inl rfl | exact Or.inr rfl) (pe_callR R_law_way (hr.mono (by decide)) rfl pass0 (pa_cons (pe_op op_mod (pe_callR R_law_cell_at (hr.mono (by decide)) rfl pass0 (pa_cons (pv 0) (pa_cons pe_int pa_nil))) pe_int) (pa_cons (pv 1) pa_nil))))
 (pss_cons (ps_set (i := 5) sc_law.nd rfl (by first | exact Or.inl rfl | exact Or.inr rfl) (pe_lst (pa_cons (pe_callR R_line_of (hr.mono (by decide)) rfl pass0 (pa_cons (pe_callTy call_listA (by rfl) B.list (by decide +kernel) (pa_cons (pe_ix ix_seq (pv 2) pe_int (fun _ _ => rfl)) pa_nil)) (pa_cons (pe_callTy call_listA (by rfl) B.list (by decide +kernel) (pa_cons (pe_ix ix_seq (pv 2) pe_int (fun _ _ => rfl)) pa_nil)) pa_nil))) (pa_cons (pe_callR R_line_of (hr.mono (by decide)) rfl pass0 (pa_cons (pe_callTy call_listA (by rfl) B.list (by decide +kernel) (pa_cons (pe_ix ix_seq (pv 3) pe_int (fun _ _ => rfl)) pa_nil)) (pa_cons (pe_callTy call_listA (by rfl) B.list (by decide +kernel) (pa_cons (pe_ix ix_seq (pv 3) pe_int (fun _ _ => rfl)) pa_nil)) pa_nil))) pa_nil))))
 (pss_cons (ps_setLc (i := 6) (own := [("_law_line_here", 10)]) (g := gName 10) (tt := tYes) (by rfl) sc_law.nd rfl rfl (sw_true rfl rfl rfl (by decide +kernel)) (pi_list (pv 5)) (blkOk_by (own := [("_law_line_here", 10)]) (N := N_law) (sc := defScope s_law) (by decide +kernel)) (fun _ _ _ _ _ => pg_name (i := 10) sc_law.nd rfl (by first | exact Or.inl rfl | exact Or.inr rfl)) (fun _ _ _ _ _ => pts_nil) (fun _ _ _ _ _ => (pe_tup (pa_cons (pe_callTy (call_listK (K := K) rfl) (by rfl) B.list (by decide +kernel) (pa_cons (pe_fldK (K := K) rfl (pv 10) rfl) pa_nil)) (pa_cons (pe_callTy (call_listK (K := K) rfl) (by rfl) B.list (by decide +kernel) (pa_cons (pe_fldK (K := K) rfl (pv 10) rfl) pa_nil)) pa_nil)))))
 (pss_cons (ps_set (i := 7) sc_law.nd rfl (by first | exact Or.inl rfl | exact Or.inr rfl) (pe_callB (call_sortedA rfl) (by rfl) B.sorted (by decide +kernel) (pa_cons (pe_callTy (call_setA rfl) (by rfl) B.set (by decide +kernel) (pa_cons (pe_op op_addA (pe_ix ix_seq (pv 2) pe_int (fun _ _ => rfl)) (pe_ix ix_seq (pv 3) pe_int (fun _ _ => rfl))) pa_nil)) pa_nil)))
 (pss_cons (ps_set (i := 8) sc_law.nd rfl (by first | exact Or.inl rfl | exact Or.inr rfl) (pe_op op_addA (pe_lst (pa_cons (pe_callW (P := P) (w := w) (K := K) (mg := mg) (base := base) (k := 1) (i := 4) rfl rfl rfl rfl rfl (hr.mono (by decide)) rfl (by first | exact Or.inl rfl | exact Or.inr (Or.inl rfl) | exact Or.inr (Or.inr rfl)) (pa_cons (pe_ix ix_seq (pe_ix ix_seq (pv 2) pe_int (fun _ _ => rfl)) pe_int (fun _ _ => rfl)) (pa_cons (pe_ix ix_seq (pe_ix ix_seq (pv 3) pe_int (fun _ _ => rfl)) pe_int (fun _ _ => rfl)) pa_nil))) pa_nil)) (pe_lc (own := [("_law_cut", 11)]) (g := gName 11) (tt := tYes) (by rfl) sc_law.nd (pi_list (pv 7)) (blkOk_by (own := [("_law_cut", 11)]) (N := N_law) (sc := defScope s_law) (by decide +kernel)) (fun _ _ _ _ _ => pg_name (i := 11) sc_law.nd rfl (by first | exact Or.inl rfl | exact Or.inr rfl)) (fun _ _ _ _ _ => pts_nil) (fun _ _ _ _ _ => (pe_callW (P := P) (w := w) (K := K) (mg := mg) (base := base) (k := 1) (i := 4) rfl rfl rfl rfl rfl (hr.mono (by decide)) rfl (by first | exact Or.inl rfl | exact Or.inr (Or.inl rfl) | exact Or.inr (Or.inr rfl)) (pa_cons (pe_callR R_law_at (hr.mono (by decide)) rfl pass0 (pa_cons (pv 2) (pa_cons (pv 11) pa_nil))) (pa_cons (pe_callR R_law_at (hr.mono (by decide)) rfl pass0 (pa_cons (pv 3) (pa_cons (pv 11) pa_nil))) pa_nil)))))))
 (pss_cons (ps_set (i := 9) sc_law.nd rfl (by first | exact Or.inl rfl | exact Or.inr rfl) (pe_callR R_joined (hr.mono (by decide)) rfl pass0 (pa_cons (pe_ix ix_seq (pv 5) pe_int (fun _ _ => rfl)) (pa_cons (pe_ix ix_seq (pv 5) pe_int (fun _ _ => rfl)) (pa_cons (pv 4) pa_nil)))))
 (pss_one (ps_ret (pe_and (pe_callR R_law_line (hr.mono (by decide)) rfl pass0 (pa_cons (pv 9) (pa_cons (pe_callR R_law_form (hr.mono (by decide)) rfl pass0 (pa_cons (pe_tup (pa_cons (pv 7) (pa_cons (pv 8) pa_nil))) pa_nil)) pa_nil))) (pe_one (pe_cmpR (op_eqA hr.units) (pv 6) (pe_lc (own := [("_law_line_here", 10)]) (g := gName 10) (tt := tYes) (by rfl) sc_law.nd (pi_list (pv 5)) (blkOk_by (own := [("_law_line_here", 10)]) (N := N_law) (sc := defScope s_law) (by decide +kernel)) (fun _ _ _ _ _ => pg_name (i := 10) sc_law.nd rfl (by first | exact Or.inl rfl | exact Or.inr rfl)) (fun _ _ _ _ _ => pts_nil) (fun _ _ _ _ _ => (pe_tup (pa_cons (pe_fldK (K := K) rfl (pv 10) rfl) (pa_cons (pe_fldK (K := K) rfl (pv 10) rfl) pa_nil))))) (nomark _))))))))))))))), ?_⟩
    change Wk.go _ _ [_, none, none, none, none, none, none, none, none, none, none, none] H
    (try dsimp only [Wk.cxK, Wk.cxKn, Wk.cxW, Wk.cxWn, Wk.cxP, Wk.cxPn])
    walk_at "go"
    refine ⟨a, ns, 0, rfl, hS, ?_⟩
    walk_at "go"
    refine ⟨_, rfl, fun H1 nm z1 z2 z3 n1 s1 w1 w2 w3 e1 => ?_⟩
    have hS1 := s1.seq hS
    walk_at "go"
    rename_i sl H2 n2 s2 e2
    rw [show (some (2 : Int)) = some ((2 : Nat) : Int) from rfl, show (some (22 : Int)) = some ((22 : Nat) : Int) from rfl, cutMid, ← List.map_drop, ← List.map_take] at e2
    have e12 := s2 _ _ e1
    refine ⟨_, _, (ns.drop 2).take (22 - 2), .non, .str z1, .str z2, .str z3, rfl, SqL.of e2, SqL.of e12, .inl rfl, .inr ⟨_, w1, rfl⟩, .inr ⟨_, w2, rfl⟩, .inr ⟨_, w3, rfl⟩, by rw [List.length_take]; omega, fun H3 t lc lh v ps _ _ _ _ s3 T FT => ?_⟩
    have hlen : ps.length ≤ 20 := by have := FT.len; rw [List.length_take] at this; omega
    have e13 := s3 _ _ e12
    have hS3 := (Same.via s2 s3).seq hS1
    walk_at "go"
    rename_i sm H4 n4 s4 e4
    rw [show (some (22 : Int)) = some ((22 : Nat) : Int) from rfl, show (some (42 : Int)) = some ((42 : Nat) : Int) from rfl, cutMid, ← List.map_drop, ← List.map_take] at e4
    have e14 := s4 _ _ e13
    refine ⟨_, _, (ns.drop 22).take (42 - 22), .non, .str z1, .str z2, .str z3, rfl, SqL.of e4, SqL.of e14, .inl rfl, .inr ⟨_, w1, rfl⟩, .inr ⟨_, w2, rfl⟩, .inr ⟨_, w3, rfl⟩, by rw [List.length_take]; omega, fun H5 t' lc' lh' u qs _ _ _ _ s5 T' FT' => ?_⟩
    have hlen' : qs.length ≤ 20 := by have := FT'.len; rw [List.length_take] at this; omega
    have e15 := s5 _ _ e14
    have s35 := Same.via s4 s5
    have hS5 := s35.seq hS3
    have T5 := T.same s35
    have hT5 : TabsN [(Pt, nmW)] H5 := hT.ext (Same.via (Same.via s1 (Same.via s2 s3)) s35)
    walk_at "go"
    refine ⟨a, ns, 1, rfl, hS5, ?_⟩
    walk_at "go"
    obtain ⟨n, hnm, hn4⟩ : ∃ n : Nat, ns.getD 1 0 % 4 = (n : Int) ∧ n < 4 := ⟨(ns.getD 1 0 % 4).toNat, by omega, by omega⟩
    rw [hnm]
    refine ⟨n, nm, [.non, .str z1, .str z2, .str z3], .str z1, rfl, hn4, e15, rfl, hT5, fun H6 wy x6 _ W => ?_⟩
    have hwf : ∀ x y, HV x → HV y → HV (wayV (.str z1) n x y) := fun x y hx hy => way_hv (.inr ⟨_, w1, rfl⟩) hx hy
    generalize wayV (.str z1) n = wf at W hwf
    have T6 : ToldAt H6 t lc lh v ps := ⟨x6 _ _ T5.1 (fun _ z => nomatch z), x6 _ _ T5.2.1 (fun _ z => nomatch z), x6 _ _ T5.2.2 (fun _ z => nomatch z)⟩
    have T6' : ToldAt H6 t' lc' lh' u qs := ⟨x6 _ _ T'.1 (fun _ z => nomatch z), x6 _ _ T'.2.1 (fun _ z => nomatch z), x6 _ _ T'.2.2 (fun _ z => nomatch z)⟩
    clear T T' T5 hT5 hT hS hS1 hS3 hS5 e1 e2 e12 e13 e14 e15 e4 s1 s2 s3 s4 s5 s35 n1 n2 n4 x6
    obtain ⟨ht, hc, hh⟩ := id T6
    obtain ⟨ht', hc', hh'⟩ := id T6'
    walk_at "go"
    rename_i d0 H7 n7 s7 e7 d1 H8 n8 s8 e8
    refine ⟨d0, d1, v, ps, fun x y => decide (x = y), rfl, SqL.of (s8 _ _ e7), SqL.of e8, by omega, FT.hv.ne, fun H9 p1 n9 s9 hl1 => ?_⟩
    have hL1 : LineOk C H9 p1 v (keep v ps) := done_keep hl1 FT.srt FT.hv
    have s69 := Same.via s7 (Same.via s8 s9)
    have ht9 := s69 _ _ ht'
    have hc9 := s69 _ _ hc'
    have hh9 := s69 _ _ hh'
    walk_at "go"
    rename_i d2 H10 n10 s10 e10 d3 H11 n11 s11 e11
    refine ⟨d2, d3, u, qs, fun x y => decide (x = y), rfl, SqL.of (s11 _ _ e10), SqL.of e11, by omega, FT'.hv.ne, fun H12 p2 n12 s12 hl2 => ?_⟩
    have hL2 : LineOk C H12 p2 u (keep u qs) := done_keep hl2 FT'.srt FT'.hv
    have s912 := Same.via s10 (Same.via s11 s12)
    have hL1' := hL1.same s912
    have k1 : (keep v ps).length ≤ 20 := Nat.le_trans keepB_len hlen
    have k2 : (keep u qs).length ≤ 20 := Nat.le_trans keepB_len hlen'
    walk_at "go"
    rename_i ll H13 n13 s13 e13
    have s613 := Same.via s69 (Same.via s912 s13)
    have hLs : LinesAt C H13 [p1, p2] [(v, keep v ps), (u, keep u qs)] := ⟨rfl, fun i b l h1 h2 => by
      match i with
      | 0 =>
        cases h1
        cases h2
        exact hL1'.same s13
      | 1 =>
        cases h1
        cases h2
        exact hL2.same s13
      | i + 2 => simp at h1⟩
    have hLok : ∀ l ∈ [(v, keep v ps), (u, keep u qs)], AllHV l.1 l.2 := fun l hl => by
      rcases List.mem_cons.mp hl with rfl | hl
      · exact FT.hv.keep
      · rw [List.mem_singleton.mp hl]
        exact FT'.hv.keep
    have T13 := T6.same s613
    have T13' := T6'.same s613
    have W13 := W.same s613
    clear hl1 hl2 hL1 hL2 hL1' T6 T6' W ht hc hh ht' hc' hh' ht9 hc9 hh9 s7 s8 s9 s10 s11 s12 s69 s912 s613 e7 e8 e10 e11 n7 n8 n9 n10 n11 n12
    obtain ⟨ls, hls⟩ : ∃ ls : List LnV, ls = [(v, keep v ps), (u, keep u qs)] := ⟨_, rfl⟩
    have hll : ls.length = 2 := by rw [hls] <;> rfl
    rw [← hls] at hLs hLok
    have hlcs : ∀ l ∈ ls, (cuts l.2).length ≤ 20 := fun l hl => by
      rw [hls] at hl
      rw [List.length_map]
      rcases List.mem_cons.mp hl with rfl | hl
      · exact k1
      · rw [List.mem_singleton.mp hl]
        exact k2
    have ell : [V.ref p1, V.ref p2] = [p1, p2].map V.ref := rfl
    rw [ell] at e13
    refine Wk.g_kLcL (SqL.of e13) (by simp) (fun i v B => ∃ t : Addr, v = V.ref t ∧ ∀ l, ls[i]? = some l → ∃ lc lh, ToldAt B t lc lh l.1 l.2) (by intro _; rfl) (fun i x H' Q' hx sm qq => ?_) (fun kt H14 ys n14 s14 e14 hy el => ?_)
    · walk_at "cl"
      obtain ⟨b, hb, rfl⟩ := Wk.ref_at hx
      have hi2 : i < 2 := (List.getElem?_eq_some_iff.mp hb).1
      obtain ⟨l, hl⟩ : ∃ l, ls[i]? = some l := ⟨_, List.getElem?_eq_getElem (by omega)⟩
      have hLb := (hLs.same sm).2 i b l hb hl
      obtain ⟨dx, mc, mh, g1, g2, g3⟩ := id hLb.at'
      walk_at "go"
      refine ⟨b, C, dx, _, _, rfl, g1, L.cl, L.nC, lf_cuts _ _, ?_⟩
      walk_at "go"
      rename_i c1 G1 m1 r1 i1
      refine ⟨b, C, dx, _, _, rfl, r1 _ _ g1, L.cl, L.nH, lf_holds _ _, ?_⟩
      have g3' := r1 _ _ g3
      walk_at "go"
      rename_i c2 G2 m2 r2 i2 c3 G3 m3 r3 i3
      refine qq _ _ (Same.via r1 (Same.via r2 r3)) fun B hN sB => ⟨c3, rfl, fun l' hl' => ?_⟩
      rw [hl] at hl'
      cases Option.some.inj hl'
      exact ⟨c1, c2, hN _ _ (Wk.fresh_back (Same.via r1 r2) m3) i3, hN _ _ m1 (r3 _ _ (r2 _ _ i1)), hN _ _ (Wk.fresh_back r1 m2) (r3 _ _ i2)⟩
    obtain ⟨ts, rfl, hK⟩ := forms_of (by rw [hy, hll] <;> rfl) el
    have hLs14 := hLs.same s14
    have W14 := W13.same s14
    have e1314 := s14 _ _ e13
    have T14 := T13.same s14
    have T14' := T13'.same s14
    clear T13 T13' W13 el hLs e13 s13 s14 n13
    obtain ⟨ht, hc, hh⟩ := id T14
    obtain ⟨ht', hc', hh'⟩ := id T14'
    have l1 : ((cuts ps).map V.int).length = ps.length := by rw [List.length_map, List.length_map]
    have l2 : ((cuts qs).map V.int).length = qs.length := by rw [List.length_map, List.length_map]
    have l3 : (cuts ps ++ cuts qs).length = ps.length + qs.length := by rw [List.length_append, List.length_map, List.length_map]
    walk_at "go"
    rename_i z1 H15 n15 s15 e15
    rw [← List.map_append] at e15
    refine Wk.g_set (SqL.of e15) (by omega) fun y c H16 n16 s16 e16 hcl => ?_
    walk_at "go"
    refine Wk.g_sortedset e16 hcl (by omega) fun es z H17 hpw hm hl n17 s17 e17 => ?_
    have s1417 := Same.via s15 (Same.via s16 s17)
    have T17 := T14.same s1417
    have T17' := T14'.same s1417
    have W17 := W14.same s1417
    have hLs17 := hLs14.same s1417
    have hK17 := hK.same s1417
    have e1317 := s1417 _ _ e1314
    have e1417 := s1417 _ _ e14
    clear T14 T14' W14 hLs14 hK e1314 e14 s15 s16 s17 s1417 e15 e16 ht hc hh ht' hc' hh' n14 n15 n16 n17 hcl
    obtain ⟨ht, hc, hh⟩ := id T17
    obtain ⟨ht', hc', hh'⟩ := id T17'
    have h0p : (holds v ps)[0]? = some v := rfl
    have h0q : (holds u qs)[0]? = some u := rfl
    have hel : es.length ≤ 40 := by omega
    walk_at "go"
    refine g_callW rfl W17 ?_
    walk_at "go"
    refine ⟨v, u, rfl, W17, FT.hv v List.mem_cons_self, FT'.hv u List.mem_cons_self, ?_⟩
    walk_at "go"
    rename_i h1 H18 n18 s18 e18
    refine Wk.g_kLcLE es (fun c => wf (at_ v ps c) (at_ u qs c)) (SqL.of (s18 _ _ e17)) (by rw [List.length_map]) (by rw [List.length_map]; omega) (by intro _; rfl) (fun i x c H' Q' hx hc sm qq => ?_) (fun h2 H19 n19 s19 e19 => ?_)
    · obtain rfl : x = .int c := by
        rw [List.getElem?_map, hc] at hx
        exact (Option.some.inj hx).symm
      have s17m := Same.via s18 sm
      walk_at "cl"
      walk_at "go"
      refine g_callW rfl (W17.same s17m) ?_
      walk_at "go"
      refine ⟨t, lc, lh, v, ps, c, rfl, T17.same s17m, by omega, fun G1 r1 => ?_⟩
      walk_at "go"
      refine ⟨t', lc', lh', u, qs, c, rfl, T17'.same (Same.via s17m r1), by omega, fun G2 r2 => ?_⟩
      refine ⟨_, _, rfl, W17.same (Same.via s17m (Same.via r1 r2)), FT.hv _ at_mem, FT'.hv _ at_mem, ?_⟩
      exact qq _ (Same.via r1 r2)
    have e1819 := s19 _ _ e18
    refine Wk.g_addL e1819 e19 (by rw [List.length_map]; simp; omega) fun h3 H20 n20 s20 e20 => ?_
    have s1720 := Same.via s18 (Same.via s19 s20)
    have e1720 := s1720 _ _ e17
    have W20 := W17.same s1720
    have hLs20 := hLs17.same s1720
    have hK20 := hK17.same s1720
    have e1320 := s1720 _ _ e1317
    have e1420 := s1720 _ _ e1417
    clear T17 T17' W17 hLs17 hK17 e1317 e1417 s18 s19 s1720 e18 e19 e1819 ht hc hh ht' hc' hh' n18 n19
    have hA := hLs20.2 0 p1 (v, keep v ps) rfl (by rw [hls] <;> rfl)
    have hB := hLs20.2 1 p2 (u, keep u qs) rfl (by rw [hls] <;> rfl)
    walk_at "go"
    refine ⟨p1, p2, wy, wf, v, u, keep v ps, keep u qs, rfl, hA.at', hB.at', W20, hwf, hA.ris.srt, hB.ris.srt, by omega, by omega, hA.hv, hB.hv, fun H21 r v' ps' n21 s21 hlr hri hnr hvr hlr2 hat => ?_⟩
    have e1721 := s21 _ _ e1720
    have e2021 := s21 _ _ e20
    walk_at "go"
    rename_i t3 H22 n22 s22 e22
    have e1722 := s22 _ _ e1721
    have e2022 := s22 _ _ e2021
    have hst := steps_both (G := wf) (f := at_ v ps) (g := at_ u qs) steps_at steps_at hm
    have hlo := lo_both (G := wf) (v := v) (u := u) hm
    have hat2 := at_table (f := fun e => wf (at_ v ps e) (at_ u qs e)) hpw hlo hst
    have hsr := srt_table (f := fun e => wf (at_ v ps e) (at_ u qs e)) hpw
    refine ⟨t3, z, h3, wf v u, es.map fun e => (e, wf (at_ v ps e) (at_ u qs e)), rfl, ⟨e22, by rw [cuts_table (f := fun e => wf (at_ v ps e) (at_ u qs e))]; exact e1722, by rw [holds_table (f := fun e => wf (at_ v ps e) (at_ u qs e))]; exact e2022⟩, table_hv hwf FT.hv FT'.hv es, hsr, by rw [List.length_map]; omega, fun H23 uu mc mh _ _ _ _ s23 U => ?_⟩
    obtain ⟨ev, eps⟩ := uniq' hri hnr (keep_ris hsr) (keep_nrm _ _) fun x => ((hat x).trans (by rw [at_keep FT.srt, at_keep FT'.srt])).trans ((at_keep hsr x).trans (hat2 x)).symm
    rw [← eps, ← ev] at U
    have s2123 := Same.via s22 s23
    walk_at "go"
    refine ⟨r, uu, mc, mh, v', ps', rfl, hlr.same s2123, U, hvr, by omega, fun H24 s24 => ?_⟩
    have s2024 := Same.via s21 (Same.via s2123 s24)
    have hLs24 := hLs20.same s2024
    have hK24 := hK20.same s2024
    have e1324 := s2024 _ _ e1320
    have e1424 := s2024 _ _ e1420
    walk_at "go"
    refine Wk.g_kAndV (fun _ => ?_) (fun z => nomatch z)
    walk_at "go"
    refine Wk.g_kLcL (SqL.of e1324) (by simp) (fun i v B => ∃ t : Addr, v = V.ref t ∧ ∀ l, ls[i]? = some l → ∃ lc lh, ToldAt B t lc lh l.1 l.2) (by intro _; rfl) (fun i x H' Q' hx sm qq => ?_) (fun kt2 H25 ys n25 s25 e25 hy el => ?_)
    · walk_at "cl"
      obtain ⟨b, hb, rfl⟩ := Wk.ref_at hx
      have hi2 : i < 2 := (List.getElem?_eq_some_iff.mp hb).1
      obtain ⟨l, hl⟩ : ∃ l, ls[i]? = some l := ⟨_, List.getElem?_eq_getElem (by omega)⟩
      obtain ⟨dx, mc, mh, g01, g2, g3⟩ := id (hLs24.2 i b l hb hl).at'
      have g1 := sm _ _ g01
      walk_at "go"
      refine ⟨b, C, dx, _, _, rfl, g1, L.cl, L.nC, lf_cuts _ _, ?_⟩
      walk_at "go"
      refine ⟨b, C, dx, _, _, rfl, g1, L.cl, L.nH, lf_holds _ _, ?_⟩
      walk_at "go"
      rename_i c3 G3 m3 r3 i3
      refine qq _ _ r3 fun B hN sB => ⟨c3, rfl, fun l' hl' => ?_⟩
      rw [hl] at hl'
      cases Option.some.inj hl'
      exact ⟨mc, mh, hN _ _ m3 i3, sB _ _ g2, sB _ _ g3⟩
    obtain ⟨ts2, rfl, hK2⟩ := forms_of (by rw [hy, hll] <;> rfl) el
    refine Wk.g_eqD (d := .list (ls.map dLn)) (e := .list (ls.map dLn)) (.lst (SqL.of (s25 _ _ e1424)) (dpa_forms (hK24.same s25) hLok)) (.lst (SqL.of e25) (dpa_forms hK2 hLok)) ((sh_list (sha_forms hLok)).ok (by decide)) ((sh_list (sha_forms hLok)).ok (by decide)) ?_
    rw [eqv_list, eqva_forms hLok]
    exact q _

theorem all_ok (B : Bt mg) {C fI : Addr} (L : LineC K mg C fI) (D_Line_init : MetAt K "__init__" "Line.__init__" s_Line_init fI) (D_line_of : DefAt K mg "line_of" s_line_of) (D_value_at : DefAt K mg "value_at" s_value_at) (D_joined : DefAt K mg "joined" s_joined) (D_law_cell_at : DefAt K mg "_law_cell_at" s_law_cell_at) (D_law_names : DefAt K mg "_law_names" s_law_names) (D_law_told : DefAt K mg "_law_told" s_law_told) (D_law_at : DefAt K mg "_law_at" s_law_at) (D_law_form : DefAt K mg "_law_form" s_law_form) (D_law_whole : DefAt K mg "_law_whole" s_law_whole) (D_law_held : DefAt K mg "_law_held" s_law_held) (D_law_line : DefAt K mg "_law_line" s_law_line) {c Pt : Addr} (TB : LamX.TabB base mg c Pt) (D_law_way : DefAtC K mg "_law_way" s_law_way c) {f : Addr} {fd : FuncData} (F : Fun K "law" "law" s_law f fd) : FnOk P w K mg base CX0 5 f fd ["_law_script"] (sp_lawT K [(Pt, nmW)]) := by
  have R_Line_init := ok_Line_init (P := P) (w := w) (base := base) L D_Line_init
  have R_value_at := ok_value_at (P := P) (w := w) (base := base) B L D_value_at
  have R_law_cell_at := ok_law_cell_at (P := P) (w := w) (base := base) B D_law_cell_at
  have R_law_names := ok_law_names (P := P) (w := w) (base := base) B D_law_names
  have R_law_at := ok_law_at (P := P) (w := w) (base := base) B D_law_at
  have R_law_whole := ok_law_whole (P := P) (w := w) (base := base) B D_law_whole
  have R_law_held := ok_law_held (P := P) (w := w) (base := base) B D_law_held
  have R_law_way := ok_law_way (P := P) (w := w) (base := base) TB D_law_way
  have R_law_told := ok_law_told (P := P) (w := w) (base := base) B R_law_cell_at D_law_told
  have R_law_form := ok_law_form (P := P) (w := w) (base := base) B R_law_at D_law_form
  have R_law_line := ok_law_line (P := P) (w := w) (base := base) B L R_law_whole R_law_held D_law_line
  have R_line_of := ok_line_of (P := P) (w := w) (base := base) B L R_Line_init D_line_of
  have R_joined := ok_joined (P := P) (w := w) (base := base) B L R_line_of R_value_at D_joined
  exact ok_law B L R_line_of R_joined R_law_cell_at R_law_names R_law_told R_law_at R_law_form R_law_line R_law_way F

end
end Cut
open PySem PySem.W PyProof.Rows
set_option maxHeartbeats 0 in
theorem PySem.Challenge.cw_cutline_k09_whole_joined_holds : PySem.Challenge.rw_cutline_k09_whole_joined.Holds := by
  w_on; o_law; k_head; (case hw => w_witness2)
  k_fill
  refine LamX.walk_ofTs (l := PySem.Challenge.rw_cutline_k09_whole_joined) (n := 63) (k := 5) (x := "_law_script") (CX := fun _ => L2.CX0) rfl (by decide) rfl ⟨rfl, by decide, by decide⟩ (fun w h Y => PySem.W.km_in_of Y) ?F (fun _ _ _ _ _ h => h)
  case F =>
    intro w mg fa h Y KX G hmg
    have hT8 := PySem.W.km_tabs_of Y
    have B : Wk.Bt mg := by
      refine' ⟨PySem.W.mg_none_of KX G ?b0, PySem.W.mg_none_of KX G ?b1, PySem.W.mg_none_of KX G ?b2, PySem.W.mg_none_of KX G ?b3, PySem.W.mg_none_of KX G ?b4, PySem.W.mg_none_of KX G ?b5, PySem.W.mg_none_of KX G ?b6, PySem.W.mg_none_of KX G ?b7, PySem.W.mg_none_of KX G ?b8, PySem.W.mg_none_of KX G ?b9, PySem.W.mg_none_of KX G ?b10, PySem.W.mg_none_of KX G ?b11, PySem.W.mg_none_of KX G ?b12, PySem.W.mg_none_of KX G ?b13, PySem.W.mg_none_of KX G ?b14, PySem.W.mg_none_of KX G ?b15, PySem.W.mg_none_of KX G ?b16⟩
      (case b0 => k_is)
      (case b1 => k_is)
      (case b2 => k_is)
      (case b3 => k_is)
      (case b4 => k_is)
      (case b5 => k_is)
      (case b6 => k_is)
      (case b7 => k_is)
      (case b8 => k_is)
      (case b9 => k_is)
      (case b10 => k_is)
      (case b11 => k_is)
      (case b12 => k_is)
      (case b13 => k_is)
      (case b14 => k_is)
      (case b15 => k_is)
      (case b16 => k_is)
    have LD : Wk.LineEx KX mg Cut.s_Line_init := by
      refine' Wk.line_mk KX G ?aC ?i1 ?f1 ?l1 ?c1 ?k1 ?pg ?hd ?po ?sa ?nC ?nH ?mk ?kC ?ha ?hn ?htk ?hm
      (case aC => k_is)
      (case i1 => k_is)
      (case f1 => k_is)
      (case l1 => k_is)
      (case c1 => k_is)
      (case k1 => k_is)
      (case pg => k_is)
      (case hd => k_is)
      (case po => k_is)
      (case sa => k_is)
      (case nC => k_is)
      (case nH => k_is)
      (case mk => k_is)
      (case kC => k_is)
      (case ha => k_is)
      (case hn => k_is)
      (case htk => k_is)
      (case hm => k_is)
    obtain ⟨C, fI, L, D_Line_init⟩ := LD
    have D_line_of : Wk.DefEx KX mg "line_of" Cut.s_line_of := by
      refine' Wk.defAt_mk KX G ?a ?l ?c ?k
      (case a => k_is)
      (case l => k_is)
      (case c => k_is)
      (case k => k_is)
    have D_value_at : Wk.DefEx KX mg "value_at" Cut.s_value_at := by
      refine' Wk.defAt_mk KX G ?a ?l ?c ?k
      (case a => k_is)
      (case l => k_is)
      (case c => k_is)
      (case k => k_is)
    have D_joined : Wk.DefEx KX mg "joined" Cut.s_joined := by
      refine' Wk.defAt_mk KX G ?a ?l ?c ?k
      (case a => k_is)
      (case l => k_is)
      (case c => k_is)
      (case k => k_is)
    have D_law_cell_at : Wk.DefEx KX mg "_law_cell_at" Cut.s_law_cell_at := by
      refine' Wk.defAt_mk KX G ?a ?l ?c ?k
      (case a => k_is)
      (case l => k_is)
      (case c => k_is)
      (case k => k_is)
    have D_law_names : Wk.DefEx KX mg "_law_names" Cut.s_law_names := by
      refine' Wk.defAt_mk KX G ?a ?l ?c ?k
      (case a => k_is)
      (case l => k_is)
      (case c => k_is)
      (case k => k_is)
    have D_law_told : Wk.DefEx KX mg "_law_told" Cut.s_law_told := by
      refine' Wk.defAt_mk KX G ?a ?l ?c ?k
      (case a => k_is)
      (case l => k_is)
      (case c => k_is)
      (case k => k_is)
    have D_law_at : Wk.DefEx KX mg "_law_at" Cut.s_law_at := by
      refine' Wk.defAt_mk KX G ?a ?l ?c ?k
      (case a => k_is)
      (case l => k_is)
      (case c => k_is)
      (case k => k_is)
    have D_law_form : Wk.DefEx KX mg "_law_form" Cut.s_law_form := by
      refine' Wk.defAt_mk KX G ?a ?l ?c ?k
      (case a => k_is)
      (case l => k_is)
      (case c => k_is)
      (case k => k_is)
    have D_law_whole : Wk.DefEx KX mg "_law_whole" Cut.s_law_whole := by
      refine' Wk.defAt_mk KX G ?a ?l ?c ?k
      (case a => k_is)
      (case l => k_is)
      (case c => k_is)
      (case k => k_is)
    have D_law_held : Wk.DefEx KX mg "_law_held" Cut.s_law_held := by
      refine' Wk.defAt_mk KX G ?a ?l ?c ?k
      (case a => k_is)
      (case l => k_is)
      (case c => k_is)
      (case k => k_is)
    have D_law_line : Wk.DefEx KX mg "_law_line" Cut.s_law_line := by
      refine' Wk.defAt_mk KX G ?a ?l ?c ?k
      (case a => k_is)
      (case l => k_is)
      (case c => k_is)
      (case k => k_is)
    have WE : Cut.WayEx KX mg "_law_way" Cut.s_law_way := by
      refine' Cut.way_mk KX G ?a ?l ?cc ?k ?c1 ?c2 ?c3 ?c4 ?c5
      (case a => k_is)
      (case l => k_is)
      (case cc => k_is)
      (case k => k_is)
      (case c1 => k_is)
      (case c2 => rfl)
      (case c3 => kernel_rfl)
      (case c4 => kernel_rfl)
      (case c5 => exact hT8 _ (by first | k_mem | simp | decide))
    obtain ⟨c, Pt, D_law_way, hd8, hn8, he8⟩ := WE
    refine' Cut.law_endT (st := Cut.s_law) (nm := Cut.nmW) KX G hmg hd8 hn8 he8 (fun base fd TB F => Cut.all_ok B L D_Line_init D_line_of D_value_at D_joined D_law_cell_at D_law_names D_law_told D_law_at D_law_form D_law_whole D_law_held D_law_line TB D_law_way F) (fun s v => .of_eq rfl) ?a ?l ?c ?k
    (case a => k_is)
    (case l => k_is)
    (case c => k_is)
    (case k => k_is)
