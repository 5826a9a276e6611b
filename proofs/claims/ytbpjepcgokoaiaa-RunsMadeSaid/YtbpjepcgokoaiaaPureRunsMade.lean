/- What the plain functions answer: the law, without program or memory. -/
import Derived.Test.YtbpjepcgokoaiaaMG
import Derived.IntWalk
import Derived.Laws.Strings
namespace Go.Proofs.Ytbpjepcgokoaiaa.runsMade
open Go.AX Go.Proofs.Ytbpjepcgokoaiaa.g
set_option linter.unusedVariables false
set_option linter.unusedSimpArgs false
theorem cond_ite (b : Bool) (x y : Option Bool) : cond_ b x y = if b = true then x else y := by cases b <;> rfl
@[simp] theorem cond_t (x y : Option Bool) : cond_ true x y = x := (cond_ite true x y).trans (if_pos rfl)
@[simp] theorem cond_f (x y : Option Bool) : cond_ false x y = y := (cond_ite false x y).trans (if_neg (by decide))
theorem cond_pos {b : Bool} {x y : Option Bool} (h : b = true) : cond_ b x y = x := by rw [h]; rfl
theorem cond_neg {b : Bool} {x y : Option Bool} (h : b = false) : cond_ b x y = y := by rw [h]; rfl
@[simp] theorem meet_self (x : Option Bool) : meet x x = x := by
  cases x with
  | none => rfl
  | some a => simp [meet]
theorem w64 {n : Int} (h1 : -9223372036854775808 ≤ n) (h2 : n ≤ 9223372036854775807) : IntKind.wrap .i64 n = n := IntWalk.i64_in n ⟨h1, h2⟩
theorem w8 {n : Int} (h1 : 0 ≤ n) (h2 : n ≤ 255) : IntKind.wrap .u8 n = n := IntWalk.u8_in n ⟨h1, h2⟩
theorem wu64 {n : Int} (h1 : 0 ≤ n) (h2 : n ≤ 18446744073709551615) : IntKind.wrap .u64 n = n := IntWalk.u64_in n ⟨h1, h2⟩
theorem ble_t {a b : Nat} (h : a ≤ b) : Nat.ble a b = true := by rw [Nat.ble_eq]; exact h
theorem ok64 {n : Int} (h : okD (.int .i64) n) : -9223372036854775808 ≤ n ∧ n ≤ 9223372036854775807 := by
  have := okD_int.1 h
  simpa [Lit.wf, IntKind.min, IntKind.max, IntKind.bits, IntKind.signed, i_] using this
theorem not_t {p : Prop} [Decidable p] (h : ¬p) : (!decide p) = true := by simp [h]
theorem not_f {p : Prop} [Decidable p] (h : p) : (!decide p) = false := by simp [h]
theorem cond_congr {b c : Bool} (h : b = c) (x y : Option Bool) : cond_ b x y = cond_ c x y := by rw [h]
attribute [local congr] cond_congr
theorem dt {p : Prop} [Decidable p] (h : p) : decide p = true := decide_eq_true h
theorem df {p : Prop} [Decidable p] (h : ¬p) : decide p = false := decide_eq_false h
theorem ieqt {a b : Int} (h : a = b) : (a == b) = true := by simp [h]
theorem ieqf {a b : Int} (h : a ≠ b) : (a == b) = false := by simp [h]
theorem inet {a b : Int} (h : a ≠ b) : (a != b) = true := by simp [h]
theorem inef {a b : Int} (h : a = b) : (a != b) = false := by simp [h]
theorem ble_f {a b : Nat} (h : b < a) : Nat.ble a b = false := by
  cases hb : Nat.ble a b with
  | false => rfl
  | true => rw [Nat.ble_eq] at hb; omega
theorem rounds_ : ∃ R, ROUNDS = R ∧ 1000000000 ≤ R := ⟨ROUNDS, rfl, by unfold ROUNDS; omega⟩
theorem dTrue {i : Decidable True} : decide True = true := dt trivial
theorem dFalse {i : Decidable False} : decide False = false := df fun h => h
theorem if_iff {α : Type} {p q : Prop} [Decidable p] [Decidable q] (h : p ↔ q) (a b : α) : (if p then a else b) = (if q then a else b) := by
  by_cases hp : p
  · rw [if_pos hp, if_pos (h.1 hp)]
  · rw [if_neg hp, if_neg (fun g => hp (h.2 g))]
abbrev Ro := Int × Int × Bool × Int × Unit
abbrev Ru := Int × Int × Int × Bool × Int × Unit
def rw_ (l : List Ru) (i : Nat) : Ru := l.getD i ((0 : Int), ((0 : Int), ((0 : Int), (false, ((0 : Int), ())))))
def sameRow (a b : Ro) : Bool := (a.1 == b.1) && ((a.2.1 == b.2.1) && ((a.2.2.1 == b.2.2.1) && ((a.2.2.2.1 == b.2.2.2.1) && true)))
theorem sameRow_iff (a b : Ro) : sameRow a b = true ↔ a = b := by
  obtain ⟨a1, a2, a3, a4, ⟨⟩⟩ := a
  obtain ⟨b1, b2, b3, b4, ⟨⟩⟩ := b
  unfold sameRow
  simp
/-- how many runs, from the first on, begin at p or ahead of it -/
def cnt : List Ru → Int → Nat
  | [], _ => 0
  | x :: r, p => if x.1 > p then 0 else cnt r p + 1
theorem cnt_le : ∀ (l : List Ru) (p : Int), cnt l p ≤ l.length
  | [], _ => Nat.le_refl _
  | x :: r, p => by
    rw [cnt]
    split
    · exact Nat.zero_le _
    · have := cnt_le r p
      rw [List.length_cons]; omega
theorem cnt_drop : ∀ (l : List Ru) (p : Int) (i : Nat), i ≤ cnt l p → cnt l p = i + cnt (l.drop i) p
  | l, p, 0, _ => by simp
  | [], p, i + 1, h => by simp [cnt] at h
  | x :: r, p, i + 1, h => by
    rw [cnt] at h ⊢
    split at h
    · omega
    · rename_i hx
      rw [if_neg hx, List.drop_succ_cons, cnt_drop r p i (by omega)]
      omega
theorem cnt_stop {l : List Ru} {p : Int} {i : Nat} (hi : i < l.length) (h : i ≤ cnt l p) : ((rw_ l i).1 > p ↔ cnt l p = i) := by
  have := cnt_drop l p i h
  rw [List.drop_eq_getElem_cons hi, cnt] at this
  have e : rw_ l i = l[i] := by unfold rw_; rw [List.getD_eq_getElem?_getD, List.getElem?_eq_getElem hi]; rfl
  rw [e]
  split at this <;> omega
def atS (l : List Ru) (p : Int) : Ro × Bool := if cnt l p = 0 then (((0 : Int), ((0 : Int), (false, ((0 : Int), ())))), false) else ((rw_ l (cnt l p - 1)).2, true)
theorem eta5 (a : Ro) : (a.1, a.2.1, a.2.2.1, a.2.2.2.1, ()) = a := rfl
theorem slices_IndexFunc_api_Run_api_Run_L0_ (l : List Ru) (p : Int) (hl : l.length ≤ 100000) (k1 : Int → Int → Option Bool) (k2 : Int → Option Bool) : ∀ (n i : Nat), i ≤ cnt l p → i ≤ l.length → l.length - i < n →
    slices_IndexFunc_api_Run_api_Run_L0 n l (l.length : Int) (i : Int) p k1 k2 = if cnt l p < l.length then k1 (cnt l p) p else k2 p
  | 0, i, _, _, h => by omega
  | n + 1, i, h0, h1, h2 => by
    rw [slices_IndexFunc_api_Run_api_Run_L0]
    unfold slices_IndexFunc_api_Run_api_Run_L0.body
    have hc := cnt_le l p
    by_cases h : i < l.length
    · have hs := cnt_stop h h0
      unfold runs_Atfn1 runs_Atfn1.body
      unfold rw_ at hs
      simp (disch := first | omega | (simp only [List.length_append, List.length_cons, List.length_nil, List.length_set, List.length_take, List.length_drop, List.length_replicate]; omega) | fail) only [cond_t, cond_f, dt, df, w64, wu64, w8, ble_t, ble_f, ieqt, ieqf, inet, inef, Bool.not_true, Bool.not_false, Bool.true_and, Bool.and_true, Bool.false_and, Bool.and_false, Bool.not_not, dTrue, dFalse, Int.toNat_natCast, List.length_append, List.length_cons, List.length_nil, meet_self]
      by_cases h3 : (l.getD i ((0 : Int), ((0 : Int), ((0 : Int), (false, ((0 : Int), ())))))).1 > p
      · have := hs.1 h3
        rw [dt h3, cond_t, if_pos (by omega), this]
      · have : ¬ cnt l p = i := fun e => h3 (hs.2 e)
        rw [df h3, cond_f]
        exact slices_IndexFunc_api_Run_api_Run_L0_ l p hl k1 k2 n (i + 1) (by omega) (by omega) (by omega)
    · simp (disch := first | omega | (simp only [List.length_append, List.length_cons, List.length_nil, List.length_set, List.length_take, List.length_drop, List.length_replicate]; omega) | fail) only [cond_t, cond_f, dt, df, w64, wu64, w8, ble_t, ble_f, ieqt, ieqf, inet, inef, Bool.not_true, Bool.not_false, Bool.true_and, Bool.and_true, Bool.false_and, Bool.and_false, Bool.not_not, dTrue, dFalse, Int.toNat_natCast, List.length_append, List.length_cons, List.length_nil, meet_self]
      rw [if_neg (by omega)]
theorem slices_IndexFunc_api_Run_api_Run_ (l : List Ru) (p : Int) (hl : l.length ≤ 100000) (k : Int → Int → Option Bool) : slices_IndexFunc_api_Run_api_Run l p k = k (if cnt l p < l.length then (cnt l p : Int) else -1) p := by
  unfold slices_IndexFunc_api_Run_api_Run slices_IndexFunc_api_Run_api_Run.body
  rw [show (0 : Int) = ((0 : Nat) : Int) from rfl, slices_IndexFunc_api_Run_api_Run_L0_ l p hl _ _ ROUNDS 0 (by omega) (by omega) (by unfold ROUNDS; omega)]
  split <;> rfl
theorem slices_IndexFunc_api_Run_api_Runv1_L0_ (l : List Ru) (p : Int) (hl : l.length ≤ 100000) (k1 : Int → Int → Option Bool) (k2 : Int → Option Bool) : ∀ (n i : Nat), i ≤ cnt l p → i ≤ l.length → l.length - i < n →
    slices_IndexFunc_api_Run_api_Runv1_L0 n l (l.length : Int) (i : Int) p k1 k2 = if cnt l p < l.length then k1 (cnt l p) p else k2 p
  | 0, i, _, _, h => by omega
  | n + 1, i, h0, h1, h2 => by
    rw [slices_IndexFunc_api_Run_api_Runv1_L0]
    unfold slices_IndexFunc_api_Run_api_Runv1_L0.body
    have hc := cnt_le l p
    by_cases h : i < l.length
    · have hs := cnt_stop h h0
      unfold runs_Atfn1 runs_Atfn1.body
      unfold rw_ at hs
      simp (disch := first | omega | (simp only [List.length_append, List.length_cons, List.length_nil, List.length_set, List.length_take, List.length_drop, List.length_replicate]; omega) | fail) only [cond_t, cond_f, dt, df, w64, wu64, w8, ble_t, ble_f, ieqt, ieqf, inet, inef, Bool.not_true, Bool.not_false, Bool.true_and, Bool.and_true, Bool.false_and, Bool.and_false, Bool.not_not, dTrue, dFalse, Int.toNat_natCast, List.length_append, List.length_cons, List.length_nil, meet_self]
      by_cases h3 : (l.getD i ((0 : Int), ((0 : Int), ((0 : Int), (false, ((0 : Int), ())))))).1 > p
      · have := hs.1 h3
        rw [dt h3, cond_t, if_pos (by omega), this]
      · have : ¬ cnt l p = i := fun e => h3 (hs.2 e)
        rw [df h3, cond_f]
        exact slices_IndexFunc_api_Run_api_Runv1_L0_ l p hl k1 k2 n (i + 1) (by omega) (by omega) (by omega)
    · simp (disch := first | omega | (simp only [List.length_append, List.length_cons, List.length_nil, List.length_set, List.length_take, List.length_drop, List.length_replicate]; omega) | fail) only [cond_t, cond_f, dt, df, w64, wu64, w8, ble_t, ble_f, ieqt, ieqf, inet, inef, Bool.not_true, Bool.not_false, Bool.true_and, Bool.and_true, Bool.false_and, Bool.and_false, Bool.not_not, dTrue, dFalse, Int.toNat_natCast, List.length_append, List.length_cons, List.length_nil, meet_self]
      rw [if_neg (by omega)]
theorem slices_IndexFunc_api_Run_api_Runv1_ (l : List Ru) (p : Int) (hl : l.length ≤ 100000) (k : Int → Int → Option Bool) : slices_IndexFunc_api_Run_api_Runv1 l p k = k (if cnt l p < l.length then (cnt l p : Int) else -1) p := by
  unfold slices_IndexFunc_api_Run_api_Runv1 slices_IndexFunc_api_Run_api_Runv1.body
  rw [show (0 : Int) = ((0 : Nat) : Int) from rfl, slices_IndexFunc_api_Run_api_Runv1_L0_ l p hl _ _ ROUNDS 0 (by omega) (by omega) (by unfold ROUNDS; omega)]
  split <;> rfl
theorem runs_At_ (l : List Ru) (p : Int) (hl : l.length ≤ 100000) (k : Ro → Bool → Option Bool) : runs_At l p k = k (atS l p).1 (atS l p).2 := by
  unfold runs_At runs_At.body atS rw_
  rw [slices_IndexFunc_api_Run_api_Run_ l p hl]
  have hc := cnt_le l p
  by_cases h : cnt l p < l.length
  · rw [if_pos h]
    by_cases h0 : cnt l p = 0
    · rw [if_pos h0, h0]
      simp (disch := first | omega | (simp only [List.length_append, List.length_cons, List.length_nil, List.length_set, List.length_take, List.length_drop, List.length_replicate]; omega) | fail) only [cond_t, cond_f, dt, df, w64, wu64, w8, ble_t, ble_f, ieqt, ieqf, inet, inef, Bool.not_true, Bool.not_false, Bool.true_and, Bool.and_true, Bool.false_and, Bool.and_false, Bool.not_not, dTrue, dFalse, Int.toNat_natCast, List.length_append, List.length_cons, List.length_nil, meet_self]
    · have e : ((cnt l p : Int) - 1).toNat = cnt l p - 1 := by omega
      rw [if_neg h0]
      simp (disch := first | omega | (simp only [List.length_append, List.length_cons, List.length_nil, List.length_set, List.length_take, List.length_drop, List.length_replicate]; omega) | fail) only [cond_t, cond_f, dt, df, w64, wu64, w8, ble_t, ble_f, ieqt, ieqf, inet, inef, Bool.not_true, Bool.not_false, Bool.true_and, Bool.and_true, Bool.false_and, Bool.and_false, Bool.not_not, dTrue, dFalse, Int.toNat_natCast, List.length_append, List.length_cons, List.length_nil, meet_self, e]
  · rw [if_neg h]
    have e2 : cnt l p = l.length := by omega
    rw [e2]
    by_cases h0 : l.length = 0
    · rw [if_pos h0]
      simp (disch := first | omega | (simp only [List.length_append, List.length_cons, List.length_nil, List.length_set, List.length_take, List.length_drop, List.length_replicate]; omega) | fail) only [cond_t, cond_f, dt, df, w64, wu64, w8, ble_t, ble_f, ieqt, ieqf, inet, inef, Bool.not_true, Bool.not_false, Bool.true_and, Bool.and_true, Bool.false_and, Bool.and_false, Bool.not_not, dTrue, dFalse, Int.toNat_natCast, List.length_append, List.length_cons, List.length_nil, meet_self]
    · have e : ((l.length : Int) - 1).toNat = l.length - 1 := by omega
      rw [if_neg h0]
      simp (disch := first | omega | (simp only [List.length_append, List.length_cons, List.length_nil, List.length_set, List.length_take, List.length_drop, List.length_replicate]; omega) | fail) only [cond_t, cond_f, dt, df, w64, wu64, w8, ble_t, ble_f, ieqt, ieqf, inet, inef, Bool.not_true, Bool.not_false, Bool.true_and, Bool.and_true, Bool.false_and, Bool.and_false, Bool.not_not, dTrue, dFalse, Int.toNat_natCast, List.length_append, List.length_cons, List.length_nil, meet_self, e]
theorem runs_Atv1_ (l : List Ru) (p : Int) (hl : l.length ≤ 100000) (k : Ro → Bool → Option Bool) : runs_Atv1 l p k = k (atS l p).1 (atS l p).2 := by
  unfold runs_Atv1 runs_Atv1.body atS rw_
  rw [slices_IndexFunc_api_Run_api_Runv1_ l p hl]
  have hc := cnt_le l p
  by_cases h : cnt l p < l.length
  · rw [if_pos h]
    by_cases h0 : cnt l p = 0
    · rw [if_pos h0, h0]
      simp (disch := first | omega | (simp only [List.length_append, List.length_cons, List.length_nil, List.length_set, List.length_take, List.length_drop, List.length_replicate]; omega) | fail) only [cond_t, cond_f, dt, df, w64, wu64, w8, ble_t, ble_f, ieqt, ieqf, inet, inef, Bool.not_true, Bool.not_false, Bool.true_and, Bool.and_true, Bool.false_and, Bool.and_false, Bool.not_not, dTrue, dFalse, Int.toNat_natCast, List.length_append, List.length_cons, List.length_nil, meet_self]
    · have e : ((cnt l p : Int) - 1).toNat = cnt l p - 1 := by omega
      rw [if_neg h0]
      simp (disch := first | omega | (simp only [List.length_append, List.length_cons, List.length_nil, List.length_set, List.length_take, List.length_drop, List.length_replicate]; omega) | fail) only [cond_t, cond_f, dt, df, w64, wu64, w8, ble_t, ble_f, ieqt, ieqf, inet, inef, Bool.not_true, Bool.not_false, Bool.true_and, Bool.and_true, Bool.false_and, Bool.and_false, Bool.not_not, dTrue, dFalse, Int.toNat_natCast, List.length_append, List.length_cons, List.length_nil, meet_self, e]
  · rw [if_neg h]
    have e2 : cnt l p = l.length := by omega
    rw [e2]
    by_cases h0 : l.length = 0
    · rw [if_pos h0]
      simp (disch := first | omega | (simp only [List.length_append, List.length_cons, List.length_nil, List.length_set, List.length_take, List.length_drop, List.length_replicate]; omega) | fail) only [cond_t, cond_f, dt, df, w64, wu64, w8, ble_t, ble_f, ieqt, ieqf, inet, inef, Bool.not_true, Bool.not_false, Bool.true_and, Bool.and_true, Bool.false_and, Bool.and_false, Bool.not_not, dTrue, dFalse, Int.toNat_natCast, List.length_append, List.length_cons, List.length_nil, meet_self]
    · have e : ((l.length : Int) - 1).toNat = l.length - 1 := by omega
      rw [if_neg h0]
      simp (disch := first | omega | (simp only [List.length_append, List.length_cons, List.length_nil, List.length_set, List.length_take, List.length_drop, List.length_replicate]; omega) | fail) only [cond_t, cond_f, dt, df, w64, wu64, w8, ble_t, ble_f, ieqt, ieqf, inet, inef, Bool.not_true, Bool.not_false, Bool.true_and, Bool.and_true, Bool.false_and, Bool.and_false, Bool.not_not, dTrue, dFalse, Int.toNat_natCast, List.length_append, List.length_cons, List.length_nil, meet_self, e]
theorem ratL (l : List Ru) (p : Int) (hl : l.length ≤ 100000) (z : Ro) (k : Bool → Ro → Ro → Option Bool) : ∀ (n i : Nat), i ≤ cnt l p → i ≤ l.length → l.length - i < n →
    ref13_At_L0 n l p (decide (i ≠ 0)) (i : Int) z (if i = 0 then ((0 : Int), ((0 : Int), (false, ((0 : Int), ())))) else (rw_ l (i - 1)).2) k = k (atS l p).2 z (atS l p).1
  | 0, i, _, _, h => by omega
  | n + 1, i, h0, h1, h2 => by
    rw [ref13_At_L0]
    unfold ref13_At_L0.body
    have hc := cnt_le l p
    have fin : cnt l p = i → k (decide (i ≠ 0)) z (if i = 0 then ((0 : Int), ((0 : Int), (false, ((0 : Int), ())))) else (rw_ l (i - 1)).2) = k (atS l p).2 z (atS l p).1 := by
      intro e
      unfold atS
      rw [e]
      by_cases h : i = 0
      · rw [if_pos h, if_pos h, df (fun g => g h)]
      · rw [if_neg h, if_neg h, dt h]
    by_cases h : i < l.length
    · have hs := cnt_stop h h0
      unfold rw_ at hs
      by_cases h3 : (l.getD i ((0 : Int), ((0 : Int), ((0 : Int), (false, ((0 : Int), ())))))).1 > p
      · simp (disch := first | omega | (simp only [List.length_append, List.length_cons, List.length_nil, List.length_set, List.length_take, List.length_drop, List.length_replicate]; omega) | fail) only [cond_t, cond_f, dt, df, w64, wu64, w8, ble_t, ble_f, ieqt, ieqf, inet, inef, Bool.not_true, Bool.not_false, Bool.true_and, Bool.and_true, Bool.false_and, Bool.and_false, Bool.not_not, dTrue, dFalse, Int.toNat_natCast, List.length_append, List.length_cons, List.length_nil, meet_self]
        exact fin (hs.1 h3)
      · have h4 : ¬ cnt l p = i := fun e => h3 (hs.2 e)
        simp (disch := first | omega | (simp only [List.length_append, List.length_cons, List.length_nil, List.length_set, List.length_take, List.length_drop, List.length_replicate]; omega) | fail) only [cond_t, cond_f, dt, df, w64, wu64, w8, ble_t, ble_f, ieqt, ieqf, inet, inef, Bool.not_true, Bool.not_false, Bool.true_and, Bool.and_true, Bool.false_and, Bool.and_false, Bool.not_not, dTrue, dFalse, Int.toNat_natCast, List.length_append, List.length_cons, List.length_nil, meet_self]
        have := ratL l p hl z k n (i + 1) (by omega) (by omega) (by omega)
        rw [dt (p := i + 1 ≠ 0) (by omega), if_neg (by omega)] at this
        exact this
    · simp (disch := first | omega | (simp only [List.length_append, List.length_cons, List.length_nil, List.length_set, List.length_take, List.length_drop, List.length_replicate]; omega) | fail) only [cond_t, cond_f, dt, df, w64, wu64, w8, ble_t, ble_f, ieqt, ieqf, inet, inef, Bool.not_true, Bool.not_false, Bool.true_and, Bool.and_true, Bool.false_and, Bool.and_false, Bool.not_not, dTrue, dFalse, Int.toNat_natCast, List.length_append, List.length_cons, List.length_nil, meet_self]
      exact fin (by omega)
theorem rat_ (l : List Ru) (p : Int) (hl : l.length ≤ 100000) (k : Ro → Bool → Option Bool) : ref13_At l p k = k (atS l p).1 (atS l p).2 := by
  unfold ref13_At ref13_At.body
  exact ratL l p hl ((0 : Int), ((0 : Int), (false, ((0 : Int), ())))) _ ROUNDS 0 (by omega) (by omega) (by unfold ROUNDS; omega)
/-- the rows of so many places -/
def rowsS (l : List Ru) (n : Nat) : List Ro := (List.range n).map fun i : Nat => (atS l (i : Int)).1
theorem rowsS_len (l : List Ru) (n : Nat) : (rowsS l n).length = n := by unfold rowsS; rw [List.length_map, List.length_range]
theorem rowsS_snoc (l : List Ru) (n : Nat) : rowsS l (n + 1) = rowsS l n ++ [(atS l (n : Int)).1] := by
  unfold rowsS
  rw [List.range_succ, List.map_append]
  rfl
def place (n : Int) : Nat := (min n 4096).toNat
theorem runs_Rows_L0_ (l : List Ru) (hl : l.length ≤ 100000) (m : Nat) (hm : m ≤ 4096) (k : List Ro → Option Bool) : ∀ (n i : Nat), i ≤ m → m - i < n → runs_Rows_L0 n l (m : Int) (i : Int) (rowsS l i) k = k (rowsS l m)
  | 0, i, _, h => by omega
  | n + 1, i, h0, h1 => by
    rw [runs_Rows_L0]
    unfold runs_Rows_L0.body
    by_cases h : i < m
    · have hr := rowsS_len l i
      simp (disch := first | omega | (simp only [List.length_append, List.length_cons, List.length_nil, List.length_set, List.length_take, List.length_drop, List.length_replicate]; omega) | fail) only [cond_t, cond_f, dt, df, w64, wu64, w8, ble_t, ble_f, ieqt, ieqf, inet, inef, Bool.not_true, Bool.not_false, Bool.true_and, Bool.and_true, Bool.false_and, Bool.and_false, Bool.not_not, dTrue, dFalse, Int.toNat_natCast, List.length_append, List.length_cons, List.length_nil, meet_self, runs_At_ l _ hl, eta5, ← rowsS_snoc]
      exact runs_Rows_L0_ l hl m hm k n (i + 1) (by omega) (by omega)
    · obtain rfl : i = m := by omega
      simp (disch := first | omega | (simp only [List.length_append, List.length_cons, List.length_nil, List.length_set, List.length_take, List.length_drop, List.length_replicate]; omega) | fail) only [cond_t, cond_f, dt, df, w64, wu64, w8, ble_t, ble_f, ieqt, ieqf, inet, inef, Bool.not_true, Bool.not_false, Bool.true_and, Bool.and_true, Bool.false_and, Bool.and_false, Bool.not_not, dTrue, dFalse, Int.toNat_natCast, List.length_append, List.length_cons, List.length_nil, meet_self]
theorem runs_Rows_ (l : List Ru) (hl : l.length ≤ 100000) (p : Int) (k : List Ro → Option Bool) : runs_Rows l p k = k (rowsS l (place p)) := by
  unfold runs_Rows runs_Rows.body
  have e : (if (0 : Int) < (if 4096 < p then 4096 else p) then (if 4096 < p then 4096 else p) else 0) = ((place p : Nat) : Int) := by
    unfold place
    split
    · split <;> omega
    · split <;> omega
  rw [e]
  exact runs_Rows_L0_ l hl (place p) (by unfold place; omega) k ROUNDS 0 (by omega) (by unfold ROUNDS place; omega)
theorem runs_Rowsv1_L0_ (l : List Ru) (hl : l.length ≤ 100000) (m : Nat) (hm : m ≤ 4096) (k : List Ro → Option Bool) : ∀ (n i : Nat), i ≤ m → m - i < n → runs_Rowsv1_L0 n l (m : Int) (i : Int) (rowsS l i) k = k (rowsS l m)
  | 0, i, _, h => by omega
  | n + 1, i, h0, h1 => by
    rw [runs_Rowsv1_L0]
    unfold runs_Rowsv1_L0.body
    by_cases h : i < m
    · have hr := rowsS_len l i
      simp (disch := first | omega | (simp only [List.length_append, List.length_cons, List.length_nil, List.length_set, List.length_take, List.length_drop, List.length_replicate]; omega) | fail) only [cond_t, cond_f, dt, df, w64, wu64, w8, ble_t, ble_f, ieqt, ieqf, inet, inef, Bool.not_true, Bool.not_false, Bool.true_and, Bool.and_true, Bool.false_and, Bool.and_false, Bool.not_not, dTrue, dFalse, Int.toNat_natCast, List.length_append, List.length_cons, List.length_nil, meet_self, runs_Atv1_ l _ hl, eta5, ← rowsS_snoc]
      exact runs_Rowsv1_L0_ l hl m hm k n (i + 1) (by omega) (by omega)
    · obtain rfl : i = m := by omega
      simp (disch := first | omega | (simp only [List.length_append, List.length_cons, List.length_nil, List.length_set, List.length_take, List.length_drop, List.length_replicate]; omega) | fail) only [cond_t, cond_f, dt, df, w64, wu64, w8, ble_t, ble_f, ieqt, ieqf, inet, inef, Bool.not_true, Bool.not_false, Bool.true_and, Bool.and_true, Bool.false_and, Bool.and_false, Bool.not_not, dTrue, dFalse, Int.toNat_natCast, List.length_append, List.length_cons, List.length_nil, meet_self]
theorem runs_Rowsv1_ (l : List Ru) (hl : l.length ≤ 100000) (p : Int) (k : List Ro → Option Bool) : runs_Rowsv1 l p k = k (rowsS l (place p)) := by
  unfold runs_Rowsv1 runs_Rowsv1.body
  have e : (if (0 : Int) < (if 4096 < p then 4096 else p) then (if 4096 < p then 4096 else p) else 0) = ((place p : Nat) : Int) := by
    unfold place
    split
    · split <;> omega
    · split <;> omega
  rw [e]
  exact runs_Rowsv1_L0_ l hl (place p) (by unfold place; omega) k ROUNDS 0 (by omega) (by unfold ROUNDS place; omega)
theorem rrowsL (l : List Ru) (hl : l.length ≤ 100000) (p : Int) (k : List Ro → Option Bool) : ∀ (n i : Nat), i ≤ place p → place p - i < n → ref13_Rows_L0 n l p (i : Int) (rowsS l i) k = k (rowsS l (place p))
  | 0, i, _, h => by omega
  | n + 1, i, h0, h1 => by
    rw [ref13_Rows_L0]
    unfold ref13_Rows_L0.body
    have hp : place p = (min p 4096).toNat := rfl
    by_cases h : i < place p
    · have hr := rowsS_len l i
      simp (disch := first | omega | (simp only [List.length_append, List.length_cons, List.length_nil, List.length_set, List.length_take, List.length_drop, List.length_replicate]; omega) | fail) only [cond_t, cond_f, dt, df, w64, wu64, w8, ble_t, ble_f, ieqt, ieqf, inet, inef, Bool.not_true, Bool.not_false, Bool.true_and, Bool.and_true, Bool.false_and, Bool.and_false, Bool.not_not, dTrue, dFalse, Int.toNat_natCast, List.length_append, List.length_cons, List.length_nil, meet_self, rat_ l _ hl, eta5, ← rowsS_snoc]
      exact rrowsL l hl p k n (i + 1) (by omega) (by omega)
    · have hi : i = place p := by omega
      by_cases h5 : (i : Int) < p
      · simp (disch := first | omega | (simp only [List.length_append, List.length_cons, List.length_nil, List.length_set, List.length_take, List.length_drop, List.length_replicate]; omega) | fail) only [cond_t, cond_f, dt, df, w64, wu64, w8, ble_t, ble_f, ieqt, ieqf, inet, inef, Bool.not_true, Bool.not_false, Bool.true_and, Bool.and_true, Bool.false_and, Bool.and_false, Bool.not_not, dTrue, dFalse, Int.toNat_natCast, List.length_append, List.length_cons, List.length_nil, meet_self]
        rw [hi]
      · simp (disch := first | omega | (simp only [List.length_append, List.length_cons, List.length_nil, List.length_set, List.length_take, List.length_drop, List.length_replicate]; omega) | fail) only [cond_t, cond_f, dt, df, w64, wu64, w8, ble_t, ble_f, ieqt, ieqf, inet, inef, Bool.not_true, Bool.not_false, Bool.true_and, Bool.and_true, Bool.false_and, Bool.and_false, Bool.not_not, dTrue, dFalse, Int.toNat_natCast, List.length_append, List.length_cons, List.length_nil, meet_self]
        rw [hi]
theorem rrows_ (l : List Ru) (hl : l.length ≤ 100000) (p : Int) (k : List Ro → Option Bool) : ref13_Rows l p k = k (rowsS l (place p)) := by
  unfold ref13_Rows ref13_Rows.body
  exact rrowsL l hl p k ROUNDS 0 (by omega) (by unfold ROUNDS place; omega)
/-- lists alike -/
theorem ex_step {P : Nat → Prop} {i m : Nat} (h : i < m) : (∃ j, i ≤ j ∧ j < m ∧ P j) ↔ P i ∨ ∃ j, i + 1 ≤ j ∧ j < m ∧ P j := by
  constructor
  · rintro ⟨j, h1, h2, h3⟩
    by_cases e : i = j
    · subst e; exact .inl h3
    · exact .inr ⟨j, by omega, h2, h3⟩
  · rintro (h1 | ⟨j, h1, h2, h3⟩)
    · exact ⟨i, Nat.le_refl _, h, h1⟩
    · exact ⟨j, by omega, h2, h3⟩
theorem ex_none {P : Nat → Prop} {i m : Nat} (h : ¬ i < m) : ¬ ∃ j, i ≤ j ∧ j < m ∧ P j := by
  rintro ⟨j, h1, h2, _⟩
  omega
theorem getD_ext {α : Type} (z : α) : ∀ {a b : List α}, a.length = b.length → (∀ i, i < a.length → a.getD i z = b.getD i z) → a = b
  | [], [], _, _ => rfl
  | [], _ :: _, h, _ => by simp at h
  | _ :: _, [], h, _ => by simp at h
  | x :: a, y :: b, h, hx => by
    have h0 := hx 0 (by simp)
    simp only [List.getD_cons_zero] at h0
    subst h0
    rw [getD_ext z (a := a) (b := b) (by simpa using h) fun i hi => by simpa using hx (i + 1) (by simpa using hi)]
open Classical in
theorem ref13_SameRows_L0_ (a b : List Ro) (hl : a.length ≤ 100000) (he : a.length = b.length) (k1 : Bool → Option Bool) (k2 : Option Bool) : ∀ (n i : Nat), i ≤ a.length → a.length - i < n →
    ref13_SameRows_L0 n a b (i : Int) k1 k2 = if ∃ j, i ≤ j ∧ j < a.length ∧ a.getD j ((0 : Int), ((0 : Int), (false, ((0 : Int), ())))) ≠ b.getD j ((0 : Int), ((0 : Int), (false, ((0 : Int), ())))) then k1 false else k2
  | 0, i, _, h => by omega
  | n + 1, i, h0, h1 => by
    rw [ref13_SameRows_L0]
    unfold ref13_SameRows_L0.body
    by_cases h : i < a.length
    · rw [if_iff (ex_step h)]
      have e : (((a.getD i ((0 : Int), ((0 : Int), (false, ((0 : Int), ()))))).1 == (b.getD i ((0 : Int), ((0 : Int), (false, ((0 : Int), ()))))).1) && (((a.getD i ((0 : Int), ((0 : Int), (false, ((0 : Int), ()))))).2.1 == (b.getD i ((0 : Int), ((0 : Int), (false, ((0 : Int), ()))))).2.1) && (((a.getD i ((0 : Int), ((0 : Int), (false, ((0 : Int), ()))))).2.2.1 == (b.getD i ((0 : Int), ((0 : Int), (false, ((0 : Int), ()))))).2.2.1) && (((a.getD i ((0 : Int), ((0 : Int), (false, ((0 : Int), ()))))).2.2.2.1 == (b.getD i ((0 : Int), ((0 : Int), (false, ((0 : Int), ()))))).2.2.2.1) && true)))) = sameRow (a.getD i ((0 : Int), ((0 : Int), (false, ((0 : Int), ()))))) (b.getD i ((0 : Int), ((0 : Int), (false, ((0 : Int), ()))))) := rfl
      have ih := ref13_SameRows_L0_ a b hl he k1 k2 n (i + 1) (by omega) (by omega)
      rw [cond_pos (dt (by omega)), cond_pos (by simp; omega), cond_pos (by simp; omega), Int.toNat_natCast, e, w64 (n := (i : Int) + 1) (by omega) (by omega), show (i : Int) + 1 = ((i + 1 : Nat) : Int) by omega, ih]
      by_cases hx : a.getD i ((0 : Int), ((0 : Int), (false, ((0 : Int), ())))) = b.getD i ((0 : Int), ((0 : Int), (false, ((0 : Int), ()))))
      · rw [(sameRow_iff _ _).2 hx, if_iff (or_iff_right (fun g => g hx))]
        simp (disch := first | omega | (simp only [List.length_append, List.length_cons, List.length_nil, List.length_set, List.length_take, List.length_drop, List.length_replicate]; omega) | fail) only [cond_t, cond_f, dt, df, w64, wu64, w8, ble_t, ble_f, ieqt, ieqf, inet, inef, Bool.not_true, Bool.not_false, Bool.true_and, Bool.and_true, Bool.false_and, Bool.and_false, Bool.not_not, dTrue, dFalse, Int.toNat_natCast, List.length_append, List.length_cons, List.length_nil, meet_self]
      · have : sameRow (a.getD i ((0 : Int), ((0 : Int), (false, ((0 : Int), ()))))) (b.getD i ((0 : Int), ((0 : Int), (false, ((0 : Int), ()))))) = false := by
          rw [← Bool.not_eq_true]; exact fun g => hx ((sameRow_iff _ _).1 g)
        rw [this, if_pos (Or.inl hx)]
        simp (disch := first | omega | (simp only [List.length_append, List.length_cons, List.length_nil, List.length_set, List.length_take, List.length_drop, List.length_replicate]; omega) | fail) only [cond_t, cond_f, dt, df, w64, wu64, w8, ble_t, ble_f, ieqt, ieqf, inet, inef, Bool.not_true, Bool.not_false, Bool.true_and, Bool.and_true, Bool.false_and, Bool.and_false, Bool.not_not, dTrue, dFalse, Int.toNat_natCast, List.length_append, List.length_cons, List.length_nil, meet_self]
    · rw [if_neg (ex_none h)]
      simp (disch := first | omega | (simp only [List.length_append, List.length_cons, List.length_nil, List.length_set, List.length_take, List.length_drop, List.length_replicate]; omega) | fail) only [cond_t, cond_f, dt, df, w64, wu64, w8, ble_t, ble_f, ieqt, ieqf, inet, inef, Bool.not_true, Bool.not_false, Bool.true_and, Bool.and_true, Bool.false_and, Bool.and_false, Bool.not_not, dTrue, dFalse, Int.toNat_natCast, List.length_append, List.length_cons, List.length_nil, meet_self]
theorem ref13_SameRows_ (a b : List Ro) (hl : a.length ≤ 100000) (k : Bool → Option Bool) : ref13_SameRows a b k = k (decide (a = b)) := by
  unfold ref13_SameRows ref13_SameRows.body
  by_cases he : a.length = b.length
  · rw [cond_neg (inef (by omega)), show (0 : Int) = ((0 : Nat) : Int) from rfl, ref13_SameRows_L0_ a b hl he _ _ ROUNDS 0 (by omega) (by unfold ROUNDS; omega)]
    by_cases hab : a = b
    · subst hab
      rw [dt rfl, if_neg (by rintro ⟨j, _, _, h⟩; exact h rfl)]
    · rw [df hab, if_pos]
      refine Classical.byContradiction fun g => hab (getD_ext ((0 : Int), ((0 : Int), (false, ((0 : Int), ())))) he fun i hi => Classical.byContradiction fun gi => g ⟨i, by omega, hi, gi⟩)
  · rw [cond_pos (inet (by omega)), df (fun e => he (by rw [e]))]
open Classical in
theorem ref13_SameRowsv1_L0_ (a b : List Ro) (hl : a.length ≤ 100000) (he : a.length = b.length) (k1 : Bool → Option Bool) (k2 : Option Bool) : ∀ (n i : Nat), i ≤ a.length → a.length - i < n →
    ref13_SameRowsv1_L0 n a b (i : Int) k1 k2 = if ∃ j, i ≤ j ∧ j < a.length ∧ a.getD j ((0 : Int), ((0 : Int), (false, ((0 : Int), ())))) ≠ b.getD j ((0 : Int), ((0 : Int), (false, ((0 : Int), ())))) then k1 false else k2
  | 0, i, _, h => by omega
  | n + 1, i, h0, h1 => by
    rw [ref13_SameRowsv1_L0]
    unfold ref13_SameRowsv1_L0.body
    by_cases h : i < a.length
    · rw [if_iff (ex_step h)]
      have e : (((a.getD i ((0 : Int), ((0 : Int), (false, ((0 : Int), ()))))).1 == (b.getD i ((0 : Int), ((0 : Int), (false, ((0 : Int), ()))))).1) && (((a.getD i ((0 : Int), ((0 : Int), (false, ((0 : Int), ()))))).2.1 == (b.getD i ((0 : Int), ((0 : Int), (false, ((0 : Int), ()))))).2.1) && (((a.getD i ((0 : Int), ((0 : Int), (false, ((0 : Int), ()))))).2.2.1 == (b.getD i ((0 : Int), ((0 : Int), (false, ((0 : Int), ()))))).2.2.1) && (((a.getD i ((0 : Int), ((0 : Int), (false, ((0 : Int), ()))))).2.2.2.1 == (b.getD i ((0 : Int), ((0 : Int), (false, ((0 : Int), ()))))).2.2.2.1) && true)))) = sameRow (a.getD i ((0 : Int), ((0 : Int), (false, ((0 : Int), ()))))) (b.getD i ((0 : Int), ((0 : Int), (false, ((0 : Int), ()))))) := rfl
      have ih := ref13_SameRowsv1_L0_ a b hl he k1 k2 n (i + 1) (by omega) (by omega)
      rw [cond_pos (dt (by omega)), cond_pos (by simp; omega), cond_pos (by simp; omega), Int.toNat_natCast, e, w64 (n := (i : Int) + 1) (by omega) (by omega), show (i : Int) + 1 = ((i + 1 : Nat) : Int) by omega, ih]
      by_cases hx : a.getD i ((0 : Int), ((0 : Int), (false, ((0 : Int), ())))) = b.getD i ((0 : Int), ((0 : Int), (false, ((0 : Int), ()))))
      · rw [(sameRow_iff _ _).2 hx, if_iff (or_iff_right (fun g => g hx))]
        simp (disch := first | omega | (simp only [List.length_append, List.length_cons, List.length_nil, List.length_set, List.length_take, List.length_drop, List.length_replicate]; omega) | fail) only [cond_t, cond_f, dt, df, w64, wu64, w8, ble_t, ble_f, ieqt, ieqf, inet, inef, Bool.not_true, Bool.not_false, Bool.true_and, Bool.and_true, Bool.false_and, Bool.and_false, Bool.not_not, dTrue, dFalse, Int.toNat_natCast, List.length_append, List.length_cons, List.length_nil, meet_self]
      · have : sameRow (a.getD i ((0 : Int), ((0 : Int), (false, ((0 : Int), ()))))) (b.getD i ((0 : Int), ((0 : Int), (false, ((0 : Int), ()))))) = false := by
          rw [← Bool.not_eq_true]; exact fun g => hx ((sameRow_iff _ _).1 g)
        rw [this, if_pos (Or.inl hx)]
        simp (disch := first | omega | (simp only [List.length_append, List.length_cons, List.length_nil, List.length_set, List.length_take, List.length_drop, List.length_replicate]; omega) | fail) only [cond_t, cond_f, dt, df, w64, wu64, w8, ble_t, ble_f, ieqt, ieqf, inet, inef, Bool.not_true, Bool.not_false, Bool.true_and, Bool.and_true, Bool.false_and, Bool.and_false, Bool.not_not, dTrue, dFalse, Int.toNat_natCast, List.length_append, List.length_cons, List.length_nil, meet_self]
    · rw [if_neg (ex_none h)]
      simp (disch := first | omega | (simp only [List.length_append, List.length_cons, List.length_nil, List.length_set, List.length_take, List.length_drop, List.length_replicate]; omega) | fail) only [cond_t, cond_f, dt, df, w64, wu64, w8, ble_t, ble_f, ieqt, ieqf, inet, inef, Bool.not_true, Bool.not_false, Bool.true_and, Bool.and_true, Bool.false_and, Bool.and_false, Bool.not_not, dTrue, dFalse, Int.toNat_natCast, List.length_append, List.length_cons, List.length_nil, meet_self]
theorem ref13_SameRowsv1_ (a b : List Ro) (hl : a.length ≤ 100000) (k : Bool → Option Bool) : ref13_SameRowsv1 a b k = k (decide (a = b)) := by
  unfold ref13_SameRowsv1 ref13_SameRowsv1.body
  by_cases he : a.length = b.length
  · rw [cond_neg (inef (by omega)), show (0 : Int) = ((0 : Nat) : Int) from rfl, ref13_SameRowsv1_L0_ a b hl he _ _ ROUNDS 0 (by omega) (by unfold ROUNDS; omega)]
    by_cases hab : a = b
    · subst hab
      rw [dt rfl, if_neg (by rintro ⟨j, _, _, h⟩; exact h rfl)]
    · rw [df hab, if_pos]
      refine Classical.byContradiction fun g => hab (getD_ext ((0 : Int), ((0 : Int), (false, ((0 : Int), ())))) he fun i hi => Classical.byContradiction fun gi => g ⟨i, by omega, hi, gi⟩)
  · rw [cond_pos (inet (by omega)), df (fun e => he (by rw [e]))]
/-- may a run begin where it does? -/
def badAt (l : List Ru) (n : Int) (i : Nat) : Prop := (rw_ l i).1 ≥ n ∨ (i = 0 ∧ (rw_ l 0).1 ≠ 0) ∨ (0 < i ∧ (rw_ l i).1 ≤ (rw_ l (i - 1)).1)
def twiceAt (l : List Ru) (i : Nat) : Prop := (rw_ l i).2 = (rw_ l (i - 1)).2
open Classical in
noncomputable def checkS (l : List Ru) (n : Int) : Int := if 4096 < l.length then 19 else if (l.length = 0) ≠ (n ≤ 0) then 9 else if ∃ j, 0 ≤ j ∧ j < l.length ∧ badAt l n j then 9 else if ∃ j, 1 ≤ j ∧ j < l.length ∧ twiceAt l j then 12 else 0
open Classical in
theorem runs_Check_L1_ (l : List Ru) (p : Int) (hl : l.length ≤ 100000) (k1 : Int → Option Bool) (k2 : List Ru → Option Bool) : ∀ (n i : Nat), i ≤ l.length → l.length - i < n →
    (0 < i → 0 ≤ (rw_ l (i - 1)).1) → runs_Check_L1 n l p (if i = 0 then -1 else (rw_ l (i - 1)).1) l (l.length : Int) (i : Int) k1 k2 = if ∃ j, i ≤ j ∧ j < l.length ∧ badAt l p j then k1 9 else k2 l
  | 0, i, _, h, _ => by omega
  | n + 1, i, h0, h1, hp => by
    rw [runs_Check_L1]
    unfold runs_Check_L1.body
    by_cases h : i < l.length
    · rw [if_iff (ex_step h)]
      have ih := runs_Check_L1_ l p hl k1 k2 n (i + 1) (by omega) (by omega)
      rw [if_neg (by omega : ¬ i + 1 = 0), Nat.add_sub_cancel] at ih
      rw [cond_pos (dt (by omega)), cond_pos (by simp; omega), Int.toNat_natCast]
      show cond_ (!decide ((rw_ l i).1 ≤ _)) (cond_ (!decide ((rw_ l i).1 ≥ p)) (cond_ ((i : Int) == 0) (cond_ ((rw_ l i).1 != 0) (k1 9) (runs_Check_L1 n l p (rw_ l i).1 l _ _ k1 k2)) (runs_Check_L1 n l p (rw_ l i).1 l _ _ k1 k2)) (k1 9)) (k1 9) = _
      rw [w64 (n := (i : Int) + 1) (by omega) (by omega), show (i : Int) + 1 = ((i + 1 : Nat) : Int) by omega]
      by_cases hi : i = 0
      · subst hi
        rw [if_pos rfl]
        by_cases hb : badAt l p 0
        · rw [if_pos (.inl hb)]
          unfold badAt at hb
          by_cases g1 : (rw_ l 0).1 ≤ -1
          · simp (disch := first | omega | (simp only [List.length_append, List.length_cons, List.length_nil, List.length_set, List.length_take, List.length_drop, List.length_replicate]; omega) | fail) only [cond_t, cond_f, dt, df, w64, wu64, w8, ble_t, ble_f, ieqt, ieqf, inet, inef, Bool.not_true, Bool.not_false, Bool.true_and, Bool.and_true, Bool.false_and, Bool.and_false, Bool.not_not, dTrue, dFalse, Int.toNat_natCast, List.length_append, List.length_cons, List.length_nil, meet_self]
          · by_cases g2 : (rw_ l 0).1 ≥ p
            · simp (disch := first | omega | (simp only [List.length_append, List.length_cons, List.length_nil, List.length_set, List.length_take, List.length_drop, List.length_replicate]; omega) | fail) only [cond_t, cond_f, dt, df, w64, wu64, w8, ble_t, ble_f, ieqt, ieqf, inet, inef, Bool.not_true, Bool.not_false, Bool.true_and, Bool.and_true, Bool.false_and, Bool.and_false, Bool.not_not, dTrue, dFalse, Int.toNat_natCast, List.length_append, List.length_cons, List.length_nil, meet_self]
            · simp (disch := first | omega | (simp only [List.length_append, List.length_cons, List.length_nil, List.length_set, List.length_take, List.length_drop, List.length_replicate]; omega) | fail) only [cond_t, cond_f, dt, df, w64, wu64, w8, ble_t, ble_f, ieqt, ieqf, inet, inef, Bool.not_true, Bool.not_false, Bool.true_and, Bool.and_true, Bool.false_and, Bool.and_false, Bool.not_not, dTrue, dFalse, Int.toNat_natCast, List.length_append, List.length_cons, List.length_nil, meet_self]
        · rw [if_iff (or_iff_right hb), ← ih (fun _ => by unfold badAt at hb; omega)]
          unfold badAt at hb
          simp (disch := first | omega | (simp only [List.length_append, List.length_cons, List.length_nil, List.length_set, List.length_take, List.length_drop, List.length_replicate]; omega) | fail) only [cond_t, cond_f, dt, df, w64, wu64, w8, ble_t, ble_f, ieqt, ieqf, inet, inef, Bool.not_true, Bool.not_false, Bool.true_and, Bool.and_true, Bool.false_and, Bool.and_false, Bool.not_not, dTrue, dFalse, Int.toNat_natCast, List.length_append, List.length_cons, List.length_nil, meet_self]
      · rw [if_neg hi]
        have hp := hp (by omega)
        by_cases hb : badAt l p i
        · rw [if_pos (.inl hb)]
          unfold badAt at hb
          by_cases g1 : (rw_ l i).1 ≤ (rw_ l (i - 1)).1
          · simp (disch := first | omega | (simp only [List.length_append, List.length_cons, List.length_nil, List.length_set, List.length_take, List.length_drop, List.length_replicate]; omega) | fail) only [cond_t, cond_f, dt, df, w64, wu64, w8, ble_t, ble_f, ieqt, ieqf, inet, inef, Bool.not_true, Bool.not_false, Bool.true_and, Bool.and_true, Bool.false_and, Bool.and_false, Bool.not_not, dTrue, dFalse, Int.toNat_natCast, List.length_append, List.length_cons, List.length_nil, meet_self]
          · simp (disch := first | omega | (simp only [List.length_append, List.length_cons, List.length_nil, List.length_set, List.length_take, List.length_drop, List.length_replicate]; omega) | fail) only [cond_t, cond_f, dt, df, w64, wu64, w8, ble_t, ble_f, ieqt, ieqf, inet, inef, Bool.not_true, Bool.not_false, Bool.true_and, Bool.and_true, Bool.false_and, Bool.and_false, Bool.not_not, dTrue, dFalse, Int.toNat_natCast, List.length_append, List.length_cons, List.length_nil, meet_self]
        · rw [if_iff (or_iff_right hb), ← ih (fun _ => by unfold badAt at hb; omega)]
          unfold badAt at hb
          simp (disch := first | omega | (simp only [List.length_append, List.length_cons, List.length_nil, List.length_set, List.length_take, List.length_drop, List.length_replicate]; omega) | fail) only [cond_t, cond_f, dt, df, w64, wu64, w8, ble_t, ble_f, ieqt, ieqf, inet, inef, Bool.not_true, Bool.not_false, Bool.true_and, Bool.and_true, Bool.false_and, Bool.and_false, Bool.not_not, dTrue, dFalse, Int.toNat_natCast, List.length_append, List.length_cons, List.length_nil, meet_self]
    · rw [if_neg (ex_none h)]
      simp (disch := first | omega | (simp only [List.length_append, List.length_cons, List.length_nil, List.length_set, List.length_take, List.length_drop, List.length_replicate]; omega) | fail) only [cond_t, cond_f, dt, df, w64, wu64, w8, ble_t, ble_f, ieqt, ieqf, inet, inef, Bool.not_true, Bool.not_false, Bool.true_and, Bool.and_true, Bool.false_and, Bool.and_false, Bool.not_not, dTrue, dFalse, Int.toNat_natCast, List.length_append, List.length_cons, List.length_nil, meet_self]
open Classical in
theorem runs_Check_L3_ (l : List Ru) (hl : l.length ≤ 100000) (k1 : Int → Option Bool) (k2 : Option Bool) : ∀ (n i : Nat), 1 ≤ i → l.length - i < n →
    runs_Check_L3 n l (i : Int) k1 k2 = if ∃ j, i ≤ j ∧ j < l.length ∧ twiceAt l j then k1 12 else k2
  | 0, i, _, h => by omega
  | n + 1, i, h0, h1 => by
    rw [runs_Check_L3]
    unfold runs_Check_L3.body
    by_cases h : i < l.length
    · rw [if_iff (ex_step h)]
      have ih := runs_Check_L3_ l hl k1 k2 n (i + 1) (by omega) (by omega)
      have e : ((i : Int) - 1).toNat = i - 1 := by omega
      rw [cond_pos (dt (by omega)), cond_pos (by simp; omega), w64 (n := (i : Int) - 1) (by omega) (by omega), cond_pos (by simp; omega), Int.toNat_natCast, e]
      show cond_ (sameRow (rw_ l i).2 (rw_ l (i - 1)).2) (k1 12) (runs_Check_L3 n l _ k1 k2) = _
      rw [w64 (n := (i : Int) + 1) (by omega) (by omega), show (i : Int) + 1 = ((i + 1 : Nat) : Int) by omega]
      by_cases hx : twiceAt l i
      · rw [if_pos (.inl hx), (sameRow_iff _ _).2 hx, cond_t]
      · have : sameRow (rw_ l i).2 (rw_ l (i - 1)).2 = false := by
          rw [← Bool.not_eq_true]; exact fun g => hx ((sameRow_iff _ _).1 g)
        rw [if_iff (or_iff_right hx), ← ih, this, cond_f]
    · rw [if_neg (ex_none h)]
      simp (disch := first | omega | (simp only [List.length_append, List.length_cons, List.length_nil, List.length_set, List.length_take, List.length_drop, List.length_replicate]; omega) | fail) only [cond_t, cond_f, dt, df, w64, wu64, w8, ble_t, ble_f, ieqt, ieqf, inet, inef, Bool.not_true, Bool.not_false, Bool.true_and, Bool.and_true, Bool.false_and, Bool.and_false, Bool.not_not, dTrue, dFalse, Int.toNat_natCast, List.length_append, List.length_cons, List.length_nil, meet_self]
open Classical in
theorem runs_Checkv1_L1_ (l : List Ru) (p : Int) (hl : l.length ≤ 100000) (k1 : Int → Option Bool) (k2 : List Ru → Option Bool) : ∀ (n i : Nat), i ≤ l.length → l.length - i < n →
    (0 < i → 0 ≤ (rw_ l (i - 1)).1) → runs_Checkv1_L1 n l p (if i = 0 then -1 else (rw_ l (i - 1)).1) l (l.length : Int) (i : Int) k1 k2 = if ∃ j, i ≤ j ∧ j < l.length ∧ badAt l p j then k1 9 else k2 l
  | 0, i, _, h, _ => by omega
  | n + 1, i, h0, h1, hp => by
    rw [runs_Checkv1_L1]
    unfold runs_Checkv1_L1.body
    by_cases h : i < l.length
    · rw [if_iff (ex_step h)]
      have ih := runs_Checkv1_L1_ l p hl k1 k2 n (i + 1) (by omega) (by omega)
      rw [if_neg (by omega : ¬ i + 1 = 0), Nat.add_sub_cancel] at ih
      rw [cond_pos (dt (by omega)), cond_pos (by simp; omega), Int.toNat_natCast]
      show cond_ (!decide ((rw_ l i).1 ≤ _)) (cond_ (!decide ((rw_ l i).1 ≥ p)) (cond_ ((i : Int) == 0) (cond_ ((rw_ l i).1 != 0) (k1 9) (runs_Checkv1_L1 n l p (rw_ l i).1 l _ _ k1 k2)) (runs_Checkv1_L1 n l p (rw_ l i).1 l _ _ k1 k2)) (k1 9)) (k1 9) = _
      rw [w64 (n := (i : Int) + 1) (by omega) (by omega), show (i : Int) + 1 = ((i + 1 : Nat) : Int) by omega]
      by_cases hi : i = 0
      · subst hi
        rw [if_pos rfl]
        by_cases hb : badAt l p 0
        · rw [if_pos (.inl hb)]
          unfold badAt at hb
          by_cases g1 : (rw_ l 0).1 ≤ -1
          · simp (disch := first | omega | (simp only [List.length_append, List.length_cons, List.length_nil, List.length_set, List.length_take, List.length_drop, List.length_replicate]; omega) | fail) only [cond_t, cond_f, dt, df, w64, wu64, w8, ble_t, ble_f, ieqt, ieqf, inet, inef, Bool.not_true, Bool.not_false, Bool.true_and, Bool.and_true, Bool.false_and, Bool.and_false, Bool.not_not, dTrue, dFalse, Int.toNat_natCast, List.length_append, List.length_cons, List.length_nil, meet_self]
          · by_cases g2 : (rw_ l 0).1 ≥ p
            · simp (disch := first | omega | (simp only [List.length_append, List.length_cons, List.length_nil, List.length_set, List.length_take, List.length_drop, List.length_replicate]; omega) | fail) only [cond_t, cond_f, dt, df, w64, wu64, w8, ble_t, ble_f, ieqt, ieqf, inet, inef, Bool.not_true, Bool.not_false, Bool.true_and, Bool.and_true, Bool.false_and, Bool.and_false, Bool.not_not, dTrue, dFalse, Int.toNat_natCast, List.length_append, List.length_cons, List.length_nil, meet_self]
            · simp (disch := first | omega | (simp only [List.length_append, List.length_cons, List.length_nil, List.length_set, List.length_take, List.length_drop, List.length_replicate]; omega) | fail) only [cond_t, cond_f, dt, df, w64, wu64, w8, ble_t, ble_f, ieqt, ieqf, inet, inef, Bool.not_true, Bool.not_false, Bool.true_and, Bool.and_true, Bool.false_and, Bool.and_false, Bool.not_not, dTrue, dFalse, Int.toNat_natCast, List.length_append, List.length_cons, List.length_nil, meet_self]
        · rw [if_iff (or_iff_right hb), ← ih (fun _ => by unfold badAt at hb; omega)]
          unfold badAt at hb
          simp (disch := first | omega | (simp only [List.length_append, List.length_cons, List.length_nil, List.length_set, List.length_take, List.length_drop, List.length_replicate]; omega) | fail) only [cond_t, cond_f, dt, df, w64, wu64, w8, ble_t, ble_f, ieqt, ieqf, inet, inef, Bool.not_true, Bool.not_false, Bool.true_and, Bool.and_true, Bool.false_and, Bool.and_false, Bool.not_not, dTrue, dFalse, Int.toNat_natCast, List.length_append, List.length_cons, List.length_nil, meet_self]
      · rw [if_neg hi]
        have hp := hp (by omega)
        by_cases hb : badAt l p i
        · rw [if_pos (.inl hb)]
          unfold badAt at hb
          by_cases g1 : (rw_ l i).1 ≤ (rw_ l (i - 1)).1
          · simp (disch := first | omega | (simp only [List.length_append, List.length_cons, List.length_nil, List.length_set, List.length_take, List.length_drop, List.length_replicate]; omega) | fail) only [cond_t, cond_f, dt, df, w64, wu64, w8, ble_t, ble_f, ieqt, ieqf, inet, inef, Bool.not_true, Bool.not_false, Bool.true_and, Bool.and_true, Bool.false_and, Bool.and_false, Bool.not_not, dTrue, dFalse, Int.toNat_natCast, List.length_append, List.length_cons, List.length_nil, meet_self]
          · simp (disch := first | omega | (simp only [List.length_append, List.length_cons, List.length_nil, List.length_set, List.length_take, List.length_drop, List.length_replicate]; omega) | fail) only [cond_t, cond_f, dt, df, w64, wu64, w8, ble_t, ble_f, ieqt, ieqf, inet, inef, Bool.not_true, Bool.not_false, Bool.true_and, Bool.and_true, Bool.false_and, Bool.and_false, Bool.not_not, dTrue, dFalse, Int.toNat_natCast, List.length_append, List.length_cons, List.length_nil, meet_self]
        · rw [if_iff (or_iff_right hb), ← ih (fun _ => by unfold badAt at hb; omega)]
          unfold badAt at hb
          simp (disch := first | omega | (simp only [List.length_append, List.length_cons, List.length_nil, List.length_set, List.length_take, List.length_drop, List.length_replicate]; omega) | fail) only [cond_t, cond_f, dt, df, w64, wu64, w8, ble_t, ble_f, ieqt, ieqf, inet, inef, Bool.not_true, Bool.not_false, Bool.true_and, Bool.and_true, Bool.false_and, Bool.and_false, Bool.not_not, dTrue, dFalse, Int.toNat_natCast, List.length_append, List.length_cons, List.length_nil, meet_self]
    · rw [if_neg (ex_none h)]
      simp (disch := first | omega | (simp only [List.length_append, List.length_cons, List.length_nil, List.length_set, List.length_take, List.length_drop, List.length_replicate]; omega) | fail) only [cond_t, cond_f, dt, df, w64, wu64, w8, ble_t, ble_f, ieqt, ieqf, inet, inef, Bool.not_true, Bool.not_false, Bool.true_and, Bool.and_true, Bool.false_and, Bool.and_false, Bool.not_not, dTrue, dFalse, Int.toNat_natCast, List.length_append, List.length_cons, List.length_nil, meet_self]
open Classical in
theorem runs_Checkv1_L3_ (l : List Ru) (hl : l.length ≤ 100000) (k1 : Int → Option Bool) (k2 : Option Bool) : ∀ (n i : Nat), 1 ≤ i → l.length - i < n →
    runs_Checkv1_L3 n l (i : Int) k1 k2 = if ∃ j, i ≤ j ∧ j < l.length ∧ twiceAt l j then k1 12 else k2
  | 0, i, _, h => by omega
  | n + 1, i, h0, h1 => by
    rw [runs_Checkv1_L3]
    unfold runs_Checkv1_L3.body
    by_cases h : i < l.length
    · rw [if_iff (ex_step h)]
      have ih := runs_Checkv1_L3_ l hl k1 k2 n (i + 1) (by omega) (by omega)
      have e : ((i : Int) - 1).toNat = i - 1 := by omega
      rw [cond_pos (dt (by omega)), cond_pos (by simp; omega), w64 (n := (i : Int) - 1) (by omega) (by omega), cond_pos (by simp; omega), Int.toNat_natCast, e]
      show cond_ (sameRow (rw_ l i).2 (rw_ l (i - 1)).2) (k1 12) (runs_Checkv1_L3 n l _ k1 k2) = _
      rw [w64 (n := (i : Int) + 1) (by omega) (by omega), show (i : Int) + 1 = ((i + 1 : Nat) : Int) by omega]
      by_cases hx : twiceAt l i
      · rw [if_pos (.inl hx), (sameRow_iff _ _).2 hx, cond_t]
      · have : sameRow (rw_ l i).2 (rw_ l (i - 1)).2 = false := by
          rw [← Bool.not_eq_true]; exact fun g => hx ((sameRow_iff _ _).1 g)
        rw [if_iff (or_iff_right hx), ← ih, this, cond_f]
    · rw [if_neg (ex_none h)]
      simp (disch := first | omega | (simp only [List.length_append, List.length_cons, List.length_nil, List.length_set, List.length_take, List.length_drop, List.length_replicate]; omega) | fail) only [cond_t, cond_f, dt, df, w64, wu64, w8, ble_t, ble_f, ieqt, ieqf, inet, inef, Bool.not_true, Bool.not_false, Bool.true_and, Bool.and_true, Bool.false_and, Bool.and_false, Bool.not_not, dTrue, dFalse, Int.toNat_natCast, List.length_append, List.length_cons, List.length_nil, meet_self]
theorem runs_Check_ (l : List Ru) (hl : l.length ≤ 100000) (p : Int) (k : Int → Option Bool) : runs_Check l p k = k (checkS l p) := by
  unfold runs_Check runs_Check.body checkS
  by_cases h1 : 4096 < l.length
  · rw [if_pos h1]
    simp (disch := first | omega | (simp only [List.length_append, List.length_cons, List.length_nil, List.length_set, List.length_take, List.length_drop, List.length_replicate]; omega) | fail) only [cond_t, cond_f, dt, df, w64, wu64, w8, ble_t, ble_f, ieqt, ieqf, inet, inef, Bool.not_true, Bool.not_false, Bool.true_and, Bool.and_true, Bool.false_and, Bool.and_false, Bool.not_not, dTrue, dFalse, Int.toNat_natCast, List.length_append, List.length_cons, List.length_nil, meet_self]
  · rw [if_neg h1, cond_neg (df (by omega))]
    by_cases h2 : (l.length = 0) = (p ≤ 0)
    · have e : (((l.length : Int) == 0) == decide (p ≤ 0)) = true := by
        by_cases h3 : l.length = 0
        · have : p ≤ 0 := h2 ▸ h3
          simp (disch := first | omega | (simp only [List.length_append, List.length_cons, List.length_nil, List.length_set, List.length_take, List.length_drop, List.length_replicate]; omega) | fail) only [cond_t, cond_f, dt, df, w64, wu64, w8, ble_t, ble_f, ieqt, ieqf, inet, inef, Bool.not_true, Bool.not_false, Bool.true_and, Bool.and_true, Bool.false_and, Bool.and_false, Bool.not_not, dTrue, dFalse, Int.toNat_natCast, List.length_append, List.length_cons, List.length_nil, meet_self, beq_self_eq_true]
        · have : ¬ p ≤ 0 := fun g => h3 (h2.symm ▸ g)
          simp (disch := first | omega | (simp only [List.length_append, List.length_cons, List.length_nil, List.length_set, List.length_take, List.length_drop, List.length_replicate]; omega) | fail) only [cond_t, cond_f, dt, df, w64, wu64, w8, ble_t, ble_f, ieqt, ieqf, inet, inef, Bool.not_true, Bool.not_false, Bool.true_and, Bool.and_true, Bool.false_and, Bool.and_false, Bool.not_not, dTrue, dFalse, Int.toNat_natCast, List.length_append, List.length_cons, List.length_nil, meet_self, beq_self_eq_true]
      rw [if_neg (fun g => g h2), e]
      rw [cond_neg (by rfl)]
      refine (runs_Check_L1_ l p hl _ _ ROUNDS 0 (by omega) (by unfold ROUNDS; omega) (fun h => by omega)).trans ?_
      split
      · rfl
      · refine (runs_Check_L3_ l hl _ _ ROUNDS 1 (by omega) (by unfold ROUNDS; omega)).trans ?_
        split <;> rfl
    · have e : (((l.length : Int) == 0) == decide (p ≤ 0)) = false := by
        by_cases h3 : l.length = 0
        · have : ¬ p ≤ 0 := fun g => h2 (by rw [eq_true h3, eq_true g])
          simp (disch := first | omega | (simp only [List.length_append, List.length_cons, List.length_nil, List.length_set, List.length_take, List.length_drop, List.length_replicate]; omega) | fail) only [cond_t, cond_f, dt, df, w64, wu64, w8, ble_t, ble_f, ieqt, ieqf, inet, inef, Bool.not_true, Bool.not_false, Bool.true_and, Bool.and_true, Bool.false_and, Bool.and_false, Bool.not_not, dTrue, dFalse, Int.toNat_natCast, List.length_append, List.length_cons, List.length_nil, meet_self]
          rfl
        · have : p ≤ 0 := Classical.byContradiction fun g => h2 (by rw [eq_false h3, eq_false g])
          simp (disch := first | omega | (simp only [List.length_append, List.length_cons, List.length_nil, List.length_set, List.length_take, List.length_drop, List.length_replicate]; omega) | fail) only [cond_t, cond_f, dt, df, w64, wu64, w8, ble_t, ble_f, ieqt, ieqf, inet, inef, Bool.not_true, Bool.not_false, Bool.true_and, Bool.and_true, Bool.false_and, Bool.and_false, Bool.not_not, dTrue, dFalse, Int.toNat_natCast, List.length_append, List.length_cons, List.length_nil, meet_self]
          rfl
      rw [if_pos h2, e]
      simp (disch := first | omega | (simp only [List.length_append, List.length_cons, List.length_nil, List.length_set, List.length_take, List.length_drop, List.length_replicate]; omega) | fail) only [cond_t, cond_f, dt, df, w64, wu64, w8, ble_t, ble_f, ieqt, ieqf, inet, inef, Bool.not_true, Bool.not_false, Bool.true_and, Bool.and_true, Bool.false_and, Bool.and_false, Bool.not_not, dTrue, dFalse, Int.toNat_natCast, List.length_append, List.length_cons, List.length_nil, meet_self]
theorem runs_Checkv1_ (l : List Ru) (hl : l.length ≤ 100000) (p : Int) (k : Int → Option Bool) : runs_Checkv1 l p k = k (checkS l p) := by
  unfold runs_Checkv1 runs_Checkv1.body checkS
  by_cases h1 : 4096 < l.length
  · rw [if_pos h1]
    simp (disch := first | omega | (simp only [List.length_append, List.length_cons, List.length_nil, List.length_set, List.length_take, List.length_drop, List.length_replicate]; omega) | fail) only [cond_t, cond_f, dt, df, w64, wu64, w8, ble_t, ble_f, ieqt, ieqf, inet, inef, Bool.not_true, Bool.not_false, Bool.true_and, Bool.and_true, Bool.false_and, Bool.and_false, Bool.not_not, dTrue, dFalse, Int.toNat_natCast, List.length_append, List.length_cons, List.length_nil, meet_self]
  · rw [if_neg h1, cond_neg (df (by omega))]
    by_cases h2 : (l.length = 0) = (p ≤ 0)
    · have e : (((l.length : Int) == 0) == decide (p ≤ 0)) = true := by
        by_cases h3 : l.length = 0
        · have : p ≤ 0 := h2 ▸ h3
          simp (disch := first | omega | (simp only [List.length_append, List.length_cons, List.length_nil, List.length_set, List.length_take, List.length_drop, List.length_replicate]; omega) | fail) only [cond_t, cond_f, dt, df, w64, wu64, w8, ble_t, ble_f, ieqt, ieqf, inet, inef, Bool.not_true, Bool.not_false, Bool.true_and, Bool.and_true, Bool.false_and, Bool.and_false, Bool.not_not, dTrue, dFalse, Int.toNat_natCast, List.length_append, List.length_cons, List.length_nil, meet_self, beq_self_eq_true]
        · have : ¬ p ≤ 0 := fun g => h3 (h2.symm ▸ g)
          simp (disch := first | omega | (simp only [List.length_append, List.length_cons, List.length_nil, List.length_set, List.length_take, List.length_drop, List.length_replicate]; omega) | fail) only [cond_t, cond_f, dt, df, w64, wu64, w8, ble_t, ble_f, ieqt, ieqf, inet, inef, Bool.not_true, Bool.not_false, Bool.true_and, Bool.and_true, Bool.false_and, Bool.and_false, Bool.not_not, dTrue, dFalse, Int.toNat_natCast, List.length_append, List.length_cons, List.length_nil, meet_self, beq_self_eq_true]
      rw [if_neg (fun g => g h2), e]
      rw [cond_neg (by rfl)]
      refine (runs_Checkv1_L1_ l p hl _ _ ROUNDS 0 (by omega) (by unfold ROUNDS; omega) (fun h => by omega)).trans ?_
      split
      · rfl
      · refine (runs_Checkv1_L3_ l hl _ _ ROUNDS 1 (by omega) (by unfold ROUNDS; omega)).trans ?_
        split <;> rfl
    · have e : (((l.length : Int) == 0) == decide (p ≤ 0)) = false := by
        by_cases h3 : l.length = 0
        · have : ¬ p ≤ 0 := fun g => h2 (by rw [eq_true h3, eq_true g])
          simp (disch := first | omega | (simp only [List.length_append, List.length_cons, List.length_nil, List.length_set, List.length_take, List.length_drop, List.length_replicate]; omega) | fail) only [cond_t, cond_f, dt, df, w64, wu64, w8, ble_t, ble_f, ieqt, ieqf, inet, inef, Bool.not_true, Bool.not_false, Bool.true_and, Bool.and_true, Bool.false_and, Bool.and_false, Bool.not_not, dTrue, dFalse, Int.toNat_natCast, List.length_append, List.length_cons, List.length_nil, meet_self]
          rfl
        · have : p ≤ 0 := Classical.byContradiction fun g => h2 (by rw [eq_false h3, eq_false g])
          simp (disch := first | omega | (simp only [List.length_append, List.length_cons, List.length_nil, List.length_set, List.length_take, List.length_drop, List.length_replicate]; omega) | fail) only [cond_t, cond_f, dt, df, w64, wu64, w8, ble_t, ble_f, ieqt, ieqf, inet, inef, Bool.not_true, Bool.not_false, Bool.true_and, Bool.and_true, Bool.false_and, Bool.and_false, Bool.not_not, dTrue, dFalse, Int.toNat_natCast, List.length_append, List.length_cons, List.length_nil, meet_self]
          rfl
      rw [if_pos h2, e]
      simp (disch := first | omega | (simp only [List.length_append, List.length_cons, List.length_nil, List.length_set, List.length_take, List.length_drop, List.length_replicate]; omega) | fail) only [cond_t, cond_f, dt, df, w64, wu64, w8, ble_t, ble_f, ieqt, ieqf, inet, inef, Bool.not_true, Bool.not_false, Bool.true_and, Bool.and_true, Bool.false_and, Bool.and_false, Bool.not_not, dTrue, dFalse, Int.toNat_natCast, List.length_append, List.length_cons, List.length_nil, meet_self]
open Classical in
theorem ref13_Same_L0_ (a b : List Ru) (hl : a.length ≤ 100000) (he : a.length = b.length) (k1 : Bool → Option Bool) (k2 : Option Bool) : ∀ (n i : Nat), i ≤ a.length → a.length - i < n →
    ref13_Same_L0 n a b (i : Int) k1 k2 = if ∃ j, i ≤ j ∧ j < a.length ∧ a.getD j ((0 : Int), ((0 : Int), ((0 : Int), (false, ((0 : Int), ()))))) ≠ b.getD j ((0 : Int), ((0 : Int), ((0 : Int), (false, ((0 : Int), ()))))) then k1 false else k2
  | 0, i, _, h => by omega
  | n + 1, i, h0, h1 => by
    rw [ref13_Same_L0]
    unfold ref13_Same_L0.body
    by_cases h : i < a.length
    · rw [if_iff (ex_step h)]
      have ih := ref13_Same_L0_ a b hl he k1 k2 n (i + 1) (by omega) (by omega)
      rw [cond_pos (dt (by omega)), cond_pos (by simp; omega), cond_pos (by simp; omega), Int.toNat_natCast, w64 (n := (i : Int) + 1) (by omega) (by omega), show (i : Int) + 1 = ((i + 1 : Nat) : Int) by omega, ih]
      show cond_ (!(((a.getD i ((0 : Int), ((0 : Int), ((0 : Int), (false, ((0 : Int), ())))))).1 == (b.getD i ((0 : Int), ((0 : Int), ((0 : Int), (false, ((0 : Int), ())))))).1) && (sameRow (a.getD i ((0 : Int), ((0 : Int), ((0 : Int), (false, ((0 : Int), ())))))).2 (b.getD i ((0 : Int), ((0 : Int), ((0 : Int), (false, ((0 : Int), ())))))).2 && true))) _ _ = _
      by_cases hx : a.getD i ((0 : Int), ((0 : Int), ((0 : Int), (false, ((0 : Int), ()))))) = b.getD i ((0 : Int), ((0 : Int), ((0 : Int), (false, ((0 : Int), ())))))
      · have e1 : ((a.getD i ((0 : Int), ((0 : Int), ((0 : Int), (false, ((0 : Int), ())))))).1 == (b.getD i ((0 : Int), ((0 : Int), ((0 : Int), (false, ((0 : Int), ())))))).1) = true := by rw [hx]; exact beq_self_eq_true _
        rw [(sameRow_iff _ _).2 (by rw [hx]), e1, if_iff (or_iff_right (fun g => g hx))]
        simp (disch := first | omega | (simp only [List.length_append, List.length_cons, List.length_nil, List.length_set, List.length_take, List.length_drop, List.length_replicate]; omega) | fail) only [cond_t, cond_f, dt, df, w64, wu64, w8, ble_t, ble_f, ieqt, ieqf, inet, inef, Bool.not_true, Bool.not_false, Bool.true_and, Bool.and_true, Bool.false_and, Bool.and_false, Bool.not_not, dTrue, dFalse, Int.toNat_natCast, List.length_append, List.length_cons, List.length_nil, meet_self]
      · have : (((a.getD i ((0 : Int), ((0 : Int), ((0 : Int), (false, ((0 : Int), ())))))).1 == (b.getD i ((0 : Int), ((0 : Int), ((0 : Int), (false, ((0 : Int), ())))))).1) && (sameRow (a.getD i ((0 : Int), ((0 : Int), ((0 : Int), (false, ((0 : Int), ())))))).2 (b.getD i ((0 : Int), ((0 : Int), ((0 : Int), (false, ((0 : Int), ())))))).2 && true)) = false := by
          rw [← Bool.not_eq_true]
          intro g
          simp only [Bool.and_eq_true, beq_iff_eq, Bool.and_true, sameRow_iff] at g
          exact hx (Prod.ext g.1 g.2)
        rw [this, if_pos (Or.inl hx)]
        simp (disch := first | omega | (simp only [List.length_append, List.length_cons, List.length_nil, List.length_set, List.length_take, List.length_drop, List.length_replicate]; omega) | fail) only [cond_t, cond_f, dt, df, w64, wu64, w8, ble_t, ble_f, ieqt, ieqf, inet, inef, Bool.not_true, Bool.not_false, Bool.true_and, Bool.and_true, Bool.false_and, Bool.and_false, Bool.not_not, dTrue, dFalse, Int.toNat_natCast, List.length_append, List.length_cons, List.length_nil, meet_self]
    · rw [if_neg (ex_none h)]
      simp (disch := first | omega | (simp only [List.length_append, List.length_cons, List.length_nil, List.length_set, List.length_take, List.length_drop, List.length_replicate]; omega) | fail) only [cond_t, cond_f, dt, df, w64, wu64, w8, ble_t, ble_f, ieqt, ieqf, inet, inef, Bool.not_true, Bool.not_false, Bool.true_and, Bool.and_true, Bool.false_and, Bool.and_false, Bool.not_not, dTrue, dFalse, Int.toNat_natCast, List.length_append, List.length_cons, List.length_nil, meet_self]
theorem ref13_Same_ (a b : List Ru) (hl : a.length ≤ 100000) (k : Bool → Option Bool) : ref13_Same a b k = k (decide (a = b)) := by
  unfold ref13_Same ref13_Same.body
  by_cases he : a.length = b.length
  · rw [cond_neg (inef (by omega)), show (0 : Int) = ((0 : Nat) : Int) from rfl, ref13_Same_L0_ a b hl he _ _ ROUNDS 0 (by omega) (by unfold ROUNDS; omega)]
    by_cases hab : a = b
    · subst hab
      rw [dt rfl, if_neg (by rintro ⟨j, _, _, h⟩; exact h rfl)]
    · rw [df hab, if_pos]
      refine Classical.byContradiction fun g => hab (getD_ext ((0 : Int), ((0 : Int), ((0 : Int), (false, ((0 : Int), ()))))) he fun i hi => Classical.byContradiction fun gi => g ⟨i, by omega, hi, gi⟩)
  · rw [cond_pos (inet (by omega)), df (fun e => he (by rw [e]))]
open Classical in
theorem ref13_Samev1_L0_ (a b : List Ru) (hl : a.length ≤ 100000) (he : a.length = b.length) (k1 : Bool → Option Bool) (k2 : Option Bool) : ∀ (n i : Nat), i ≤ a.length → a.length - i < n →
    ref13_Samev1_L0 n a b (i : Int) k1 k2 = if ∃ j, i ≤ j ∧ j < a.length ∧ a.getD j ((0 : Int), ((0 : Int), ((0 : Int), (false, ((0 : Int), ()))))) ≠ b.getD j ((0 : Int), ((0 : Int), ((0 : Int), (false, ((0 : Int), ()))))) then k1 false else k2
  | 0, i, _, h => by omega
  | n + 1, i, h0, h1 => by
    rw [ref13_Samev1_L0]
    unfold ref13_Samev1_L0.body
    by_cases h : i < a.length
    · rw [if_iff (ex_step h)]
      have ih := ref13_Samev1_L0_ a b hl he k1 k2 n (i + 1) (by omega) (by omega)
      rw [cond_pos (dt (by omega)), cond_pos (by simp; omega), cond_pos (by simp; omega), Int.toNat_natCast, w64 (n := (i : Int) + 1) (by omega) (by omega), show (i : Int) + 1 = ((i + 1 : Nat) : Int) by omega, ih]
      show cond_ (!(((a.getD i ((0 : Int), ((0 : Int), ((0 : Int), (false, ((0 : Int), ())))))).1 == (b.getD i ((0 : Int), ((0 : Int), ((0 : Int), (false, ((0 : Int), ())))))).1) && (sameRow (a.getD i ((0 : Int), ((0 : Int), ((0 : Int), (false, ((0 : Int), ())))))).2 (b.getD i ((0 : Int), ((0 : Int), ((0 : Int), (false, ((0 : Int), ())))))).2 && true))) _ _ = _
      by_cases hx : a.getD i ((0 : Int), ((0 : Int), ((0 : Int), (false, ((0 : Int), ()))))) = b.getD i ((0 : Int), ((0 : Int), ((0 : Int), (false, ((0 : Int), ())))))
      · have e1 : ((a.getD i ((0 : Int), ((0 : Int), ((0 : Int), (false, ((0 : Int), ())))))).1 == (b.getD i ((0 : Int), ((0 : Int), ((0 : Int), (false, ((0 : Int), ())))))).1) = true := by rw [hx]; exact beq_self_eq_true _
        rw [(sameRow_iff _ _).2 (by rw [hx]), e1, if_iff (or_iff_right (fun g => g hx))]
        simp (disch := first | omega | (simp only [List.length_append, List.length_cons, List.length_nil, List.length_set, List.length_take, List.length_drop, List.length_replicate]; omega) | fail) only [cond_t, cond_f, dt, df, w64, wu64, w8, ble_t, ble_f, ieqt, ieqf, inet, inef, Bool.not_true, Bool.not_false, Bool.true_and, Bool.and_true, Bool.false_and, Bool.and_false, Bool.not_not, dTrue, dFalse, Int.toNat_natCast, List.length_append, List.length_cons, List.length_nil, meet_self]
      · have : (((a.getD i ((0 : Int), ((0 : Int), ((0 : Int), (false, ((0 : Int), ())))))).1 == (b.getD i ((0 : Int), ((0 : Int), ((0 : Int), (false, ((0 : Int), ())))))).1) && (sameRow (a.getD i ((0 : Int), ((0 : Int), ((0 : Int), (false, ((0 : Int), ())))))).2 (b.getD i ((0 : Int), ((0 : Int), ((0 : Int), (false, ((0 : Int), ())))))).2 && true)) = false := by
          rw [← Bool.not_eq_true]
          intro g
          simp only [Bool.and_eq_true, beq_iff_eq, Bool.and_true, sameRow_iff] at g
          exact hx (Prod.ext g.1 g.2)
        rw [this, if_pos (Or.inl hx)]
        simp (disch := first | omega | (simp only [List.length_append, List.length_cons, List.length_nil, List.length_set, List.length_take, List.length_drop, List.length_replicate]; omega) | fail) only [cond_t, cond_f, dt, df, w64, wu64, w8, ble_t, ble_f, ieqt, ieqf, inet, inef, Bool.not_true, Bool.not_false, Bool.true_and, Bool.and_true, Bool.false_and, Bool.and_false, Bool.not_not, dTrue, dFalse, Int.toNat_natCast, List.length_append, List.length_cons, List.length_nil, meet_self]
    · rw [if_neg (ex_none h)]
      simp (disch := first | omega | (simp only [List.length_append, List.length_cons, List.length_nil, List.length_set, List.length_take, List.length_drop, List.length_replicate]; omega) | fail) only [cond_t, cond_f, dt, df, w64, wu64, w8, ble_t, ble_f, ieqt, ieqf, inet, inef, Bool.not_true, Bool.not_false, Bool.true_and, Bool.and_true, Bool.false_and, Bool.and_false, Bool.not_not, dTrue, dFalse, Int.toNat_natCast, List.length_append, List.length_cons, List.length_nil, meet_self]
theorem ref13_Samev1_ (a b : List Ru) (hl : a.length ≤ 100000) (k : Bool → Option Bool) : ref13_Samev1 a b k = k (decide (a = b)) := by
  unfold ref13_Samev1 ref13_Samev1.body
  by_cases he : a.length = b.length
  · rw [cond_neg (inef (by omega)), show (0 : Int) = ((0 : Nat) : Int) from rfl, ref13_Samev1_L0_ a b hl he _ _ ROUNDS 0 (by omega) (by unfold ROUNDS; omega)]
    by_cases hab : a = b
    · subst hab
      rw [dt rfl, if_neg (by rintro ⟨j, _, _, h⟩; exact h rfl)]
    · rw [df hab, if_pos]
      refine Classical.byContradiction fun g => hab (getD_ext ((0 : Int), ((0 : Int), ((0 : Int), (false, ((0 : Int), ()))))) he fun i hi => Classical.byContradiction fun gi => g ⟨i, by omega, hi, gi⟩)
  · rw [cond_pos (inet (by omega)), df (fun e => he (by rw [e]))]
/-- the table of the first rows -/
def mk (rs : List Ro) : Nat → List Ru
  | 0 => []
  | i + 1 => if i ≠ 0 ∧ rs.getD i ((0 : Int), ((0 : Int), (false, ((0 : Int), ())))) = rs.getD (i - 1) ((0 : Int), ((0 : Int), (false, ((0 : Int), ())))) then mk rs i else mk rs i ++ [((i : Int), rs.getD i ((0 : Int), ((0 : Int), (false, ((0 : Int), ())))))]
theorem snoc_get (l : List Ru) (x : Ru) (j : Nat) : rw_ (l ++ [x]) j = if j = l.length then x else rw_ l j := by
  unfold rw_
  rw [List.getD_eq_getElem?_getD, List.getD_eq_getElem?_getD]
  by_cases h : j < l.length
  · rw [if_neg (by omega), List.getElem?_append_left h]
  · rw [List.getElem?_append_right (by omega)]
    by_cases h2 : j = l.length
    · rw [if_pos h2, h2, Nat.sub_self]
      rfl
    · rw [if_neg h2, List.getElem?_eq_none (by simp; omega), List.getElem?_eq_none (by omega)]
structure Up (rs : List Ro) (l : List Ru) (i : Nat) : Prop where
  len : l.length ≤ i
  some : 0 < i → 0 < l.length ∧ (rw_ l (l.length - 1)).2 = rs.getD (i - 1) ((0 : Int), ((0 : Int), (false, ((0 : Int), ()))))
  in_ : ∀ j, j < l.length → (rw_ l j).1 < (i : Int)
  first : 0 < l.length → (rw_ l 0).1 = 0
  up : ∀ j, 0 < j → j < l.length → (rw_ l (j - 1)).1 < (rw_ l j).1
  ne : ∀ j, 0 < j → j < l.length → (rw_ l j).2 ≠ (rw_ l (j - 1)).2
theorem mk_up (rs : List Ro) : ∀ i, Up rs (mk rs i) i
  | 0 => ⟨Nat.le_refl _, fun h => by omega, fun j h => by simp [mk] at h, fun h => by simp [mk] at h, fun j _ h => by simp [mk] at h, fun j _ h => by simp [mk] at h⟩
  | i + 1 => by
    have ih := mk_up rs i
    rw [mk]
    split
    · rename_i h
      have := ih.some (by omega)
      exact ⟨Nat.le_succ_of_le ih.len, fun _ => ⟨this.1, by rw [Nat.add_sub_cancel, h.2]; exact this.2⟩, fun j hj => by have := ih.in_ j hj; omega, ih.first, ih.up, ih.ne⟩
    · rename_i h
      have hlen : (mk rs i ++ [((i : Int), rs.getD i ((0 : Int), ((0 : Int), (false, ((0 : Int), ())))))]).length = (mk rs i).length + 1 := by simp
      have hl := ih.len
      refine ⟨by rw [hlen]; omega, fun _ => ⟨by rw [hlen]; omega, by rw [hlen, Nat.add_sub_cancel, snoc_get, if_pos rfl, Nat.add_sub_cancel]⟩, fun j hj => ?_, fun _ => ?_, fun j h0 hj => ?_, fun j h0 hj => ?_⟩
      · rw [hlen] at hj
        rw [snoc_get]
        split
        · show (i : Int) < _
          omega
        · have := ih.in_ j (by omega)
          omega
      · rw [snoc_get]
        split
        · rename_i h2
          have : ¬ 0 < i := fun g => by have := (ih.some g).1; omega
          show (i : Int) = 0
          omega
        · exact ih.first (by omega)
      · rw [hlen] at hj
        rw [snoc_get, snoc_get, if_neg (by omega)]
        split
        · have := ih.in_ (j - 1) (by omega)
          show _ < (i : Int)
          exact this
        · exact ih.up j h0 (by omega)
      · rw [hlen] at hj
        rw [snoc_get, snoc_get, if_neg (by omega : ¬ j - 1 = _)]
        split
        · rename_i h2
          have hi : 0 < i := by omega
          have := ih.some hi
          rw [h2, this.2]
          exact fun e => h ⟨by omega, e⟩
        · exact ih.ne j h0 (by omega)
/-- what is counted -/
theorem cnt_uniq : ∀ {l : List Ru} {p : Int} {c : Nat}, c ≤ l.length → (∀ j, j < c → (rw_ l j).1 ≤ p) → (c < l.length → (rw_ l c).1 > p) → cnt l p = c
  | [], p, c, h, _, _ => by
    have : c = 0 := by simpa using h
    subst this; rfl
  | x :: r, p, 0, _, _, h => by
    have : x.1 > p := h (by simp)
    rw [cnt, if_pos this]
  | x :: r, p, c + 1, h0, h1, h2 => by
    have := h1 0 (by omega)
    have hx : ¬ x.1 > p := by
      have : x.1 ≤ p := this
      omega
    rw [cnt, if_neg hx, cnt_uniq (l := r) (c := c) (by simpa using h0) (fun j hj => h1 (j + 1) (by omega)) (fun hc => h2 (by simpa using hc))]
theorem cnt_spec (l : List Ru) (p : Int) : ∀ j, (j < cnt l p → (rw_ l j).1 ≤ p) := by
  induction l with
  | nil => intro j h; simp [cnt] at h
  | cons x r ih =>
    intro j h
    rw [cnt] at h
    split at h
    · omega
    · rename_i hx
      cases j with
      | zero => show x.1 ≤ p; omega
      | succ j => exact ih j (by omega)
theorem at_mk (rs : List Ro) : ∀ i p : Nat, p < i → (atS (mk rs i) (p : Int)).1 = rs.getD p ((0 : Int), ((0 : Int), (false, ((0 : Int), ()))))
  | 0, p, h => by omega
  | i + 1, p, h => by
    have ih := at_mk rs i
    have hu := mk_up rs i
    by_cases hp : p < i
    · rw [mk]
      split
      · exact ih p hp
      · rw [← ih p hp]
        have hc := cnt_le (mk rs i) (p : Int)
        have e : cnt (mk rs i ++ [((i : Int), rs.getD i ((0 : Int), ((0 : Int), (false, ((0 : Int), ())))))]) (p : Int) = cnt (mk rs i) (p : Int) := by
          refine cnt_uniq (by simp; omega) (fun j hj => ?_) fun hj => ?_
          · rw [snoc_get, if_neg (by omega)]
            exact cnt_spec _ _ j hj
          · rw [snoc_get]
            split
            · show (i : Int) > p
              omega
            · exact (cnt_stop (by rw [List.length_append, List.length_singleton] at hj; omega) (Nat.le_refl _)).2 rfl
        unfold atS
        rw [e]
        split
        · rfl
        · rw [snoc_get, if_neg (by omega)]
    · obtain rfl : p = i := by omega
      have hu2 := mk_up rs (p + 1)
      have hs := hu2.some (by omega)
      have e : cnt (mk rs (p + 1)) (p : Int) = (mk rs (p + 1)).length := cnt_uniq (Nat.le_refl _) (fun j hj => by have := hu2.in_ j hj; omega) (fun h => by omega)
      unfold atS
      rw [e, if_neg (by omega)]
      exact hs.2
structure Good (l : List Ru) (n : Nat) : Prop where
  in_ : ∀ j, j < l.length → (rw_ l j).1 < (n : Int)
  first : 0 < l.length → (rw_ l 0).1 = 0
  up : ∀ j, 0 < j → j < l.length → (rw_ l (j - 1)).1 < (rw_ l j).1
  ne : ∀ j, 0 < j → j < l.length → (rw_ l j).2 ≠ (rw_ l (j - 1)).2
  some : 0 < n → 0 < l.length
theorem Good.lo {l : List Ru} {n : Nat} (h : Good l n) : ∀ j, j < l.length → 0 ≤ (rw_ l j).1
  | 0, hj => by rw [h.first hj]; omega
  | j + 1, hj => by
    have := h.lo j (by omega)
    have := h.up (j + 1) (by omega) hj
    rw [Nat.add_sub_cancel] at this
    omega
theorem uniq (rs : List Ro) (l : List Ru) (n : Nat) (h : Good l n) (hr : ∀ i, i < n → (atS l (i : Int)).1 = rs.getD i ((0 : Int), ((0 : Int), (false, ((0 : Int), ()))))) : ∀ i, i ≤ n → l.take (cnt l ((i : Int) - 1)) = mk rs i
  | 0, _ => by
    have : cnt l (((0 : Nat) : Int) - 1) = 0 := cnt_uniq (Nat.zero_le _) (fun j hj => by omega) (fun hj => by rw [h.first hj]; omega)
    rw [this]
    rfl
  | i + 1, hi => by
    have ih := uniq rs l n h hr i (by omega)
    have hri := hr i (by omega)
    have e0 : ((i + 1 : Nat) : Int) - 1 = (i : Int) := by omega
    rw [e0]
    generalize hc : cnt l ((i : Int) - 1) = c at ih
    have hcl : c ≤ l.length := by rw [← hc]; exact cnt_le _ _
    have hlow : ∀ j, j < c → (rw_ l j).1 ≤ (i : Int) - 1 := by rw [← hc]; exact cnt_spec _ _
    have hc0 : 0 < i → 0 < c := fun g => by
      have h1 := h.some (by omega)
      have h2 := h.first h1
      refine Nat.pos_of_ne_zero fun e => ?_
      have := (cnt_stop (l := l) (p := (i : Int) - 1) (i := 0) h1 (Nat.zero_le _)).2 (by rw [hc, e])
      omega
    have hstop : c < l.length → (rw_ l c).1 > (i : Int) - 1 := fun g => (cnt_stop g (by omega)).2 hc
    have hprev : 0 < i → (rw_ l (c - 1)).2 = rs.getD (i - 1) ((0 : Int), ((0 : Int), (false, ((0 : Int), ())))) := fun g => by
      rw [← hr (i - 1) (by omega)]
      unfold atS
      rw [show ((i - 1 : Nat) : Int) = (i : Int) - 1 by omega, hc, if_neg (by have := hc0 g; omega)]
    by_cases hA : c < l.length ∧ (rw_ l c).1 = (i : Int)
    · have e1 : cnt l (i : Int) = c + 1 := by
        refine cnt_uniq (by omega) (fun j hj => ?_) fun hj => ?_
        · by_cases hj2 : j = c
          · rw [hj2, hA.2]; omega
          · have := hlow j (by omega); omega
        · have := h.up (c + 1) (by omega) hj
          rw [Nat.add_sub_cancel, hA.2] at this
          exact this
      have hrow : (rw_ l c).2 = rs.getD i ((0 : Int), ((0 : Int), (false, ((0 : Int), ())))) := by
        rw [← hri]
        unfold atS
        rw [e1, if_neg (by omega), Nat.add_sub_cancel]
      rw [e1, mk, if_neg]
      · rw [List.take_add_one, ih]
        congr 1
        have : l[c]? = some (rw_ l c) := by
          unfold rw_
          rw [List.getD_eq_getElem?_getD, List.getElem?_eq_getElem hA.1]
          rfl
        rw [this]
        show [rw_ l c] = _
        rw [← hA.2, ← hrow]
      · rintro ⟨g1, g2⟩
        have hi0 : 0 < i := by omega
        have := h.ne c (hc0 hi0) hA.1
        rw [hrow, hprev hi0] at this
        exact this g2
    · have e1 : cnt l (i : Int) = c := by
        refine cnt_uniq hcl (fun j hj => by have := hlow j hj; omega) fun hj => ?_
        have := hstop hj
        have : (rw_ l c).1 ≠ (i : Int) := fun e => hA ⟨hj, e⟩
        omega
      have hi0 : 0 < i := by
        refine Nat.pos_of_ne_zero fun e => hA ?_
        subst e
        have h1 := h.some (by omega)
        have hc00 : c = 0 := by
          rw [← hc]
          exact cnt_uniq (Nat.zero_le _) (fun j hj => by omega) (fun hj => by rw [h.first hj]; omega)
        rw [hc00]
        exact ⟨h1, by rw [h.first h1]; rfl⟩
      rw [e1, ih, mk, if_pos]
      refine ⟨by omega, ?_⟩
      rw [← hri, ← hprev hi0]
      unfold atS
      rw [e1, if_neg (by have := hc0 hi0; omega)]
theorem whole (rs : List Ro) (l : List Ru) (n : Nat) (h : Good l n) (hr : ∀ i, i < n → (atS l (i : Int)).1 = rs.getD i ((0 : Int), ((0 : Int), (false, ((0 : Int), ()))))) : mk rs n = l := by
  rw [← uniq rs l n h hr n (Nat.le_refl _)]
  have e : cnt l ((n : Int) - 1) = l.length := cnt_uniq (Nat.le_refl _) (fun j hj => by have := h.in_ j hj; omega) (fun h => by omega)
  rw [e, List.take_length]
theorem check_good {l : List Ru} {n : Nat} (h : checkS l (n : Int) = 0) : Good l n := by
  unfold checkS at h
  split at h
  · cases h
  · split at h
    · cases h
    · rename_i h2
      split at h
      · cases h
      · rename_i h3
        split at h
        · cases h
        · rename_i h4
          have hb : ∀ j, j < l.length → ¬ badAt l n j := fun j hj g => h3 ⟨j, Nat.zero_le _, hj, g⟩
          refine ⟨fun j hj => ?_, fun hj => ?_, fun j h0 hj => ?_, fun j h0 hj => fun g => h4 ⟨j, by omega, hj, g⟩, fun g => ?_⟩
          · have := hb j hj; unfold badAt at this; omega
          · have := hb 0 hj; unfold badAt at this; omega
          · have := hb j hj; unfold badAt at this; omega
          · refine Nat.pos_of_ne_zero fun e => h2 fun g2 => ?_
            have : (n : Int) ≤ 0 := g2 ▸ e
            omega
theorem mk_check (rs : List Ro) (n : Nat) (hn : n ≤ 300) : checkS (mk rs n) (n : Int) = 0 := by
  have hu := mk_up rs n
  unfold checkS
  have hl := hu.len
  rw [if_neg (by omega), if_neg, if_neg, if_neg]
  · rintro ⟨j, h1, h2, h3⟩
    exact hu.ne j (by omega) h2 h3
  · rintro ⟨j, h1, h2, h3⟩
    unfold badAt at h3
    rcases h3 with h3 | ⟨h3, h4⟩ | ⟨h3, h4⟩
    · have := hu.in_ j h2; omega
    · exact h4 (hu.first (by omega))
    · have := hu.up j h3 h2; omega
  · intro g
    apply g
    by_cases h : 0 < n
    · have := (hu.some h).1
      rw [eq_false (by omega : ¬ (mk rs n).length = 0), eq_false (by omega : ¬ (n : Int) ≤ 0)]
    · rw [eq_true (by omega : (mk rs n).length = 0), eq_true (by omega : (n : Int) ≤ 0)]
theorem makeL (rs : List Ro) (hl : rs.length ≤ 300) (k : List Ru → Option Bool) : ∀ (n i : Nat), i ≤ rs.length → rs.length - i < n → runs_Make_L0 n rs (rs.length : Int) (i : Int) (mk rs i) k = k (mk rs rs.length)
  | 0, i, _, h => by omega
  | n + 1, i, h0, h1 => by
    rw [runs_Make_L0]
    unfold runs_Make_L0.body
    have hu := mk_up rs i
    have hul := hu.len
    by_cases h : i < rs.length
    · have ih := makeL rs hl k n (i + 1) (by omega) (by omega)
      rw [mk] at ih
      by_cases hi : i = 0
      · subst hi
        rw [if_neg (fun g => g.1 rfl)] at ih
        have e : (mk rs 0).length = 0 := rfl
        simp (disch := first | omega | (simp only [List.length_append, List.length_cons, List.length_nil, List.length_set, List.length_take, List.length_drop, List.length_replicate]; omega) | fail) only [cond_t, cond_f, dt, df, w64, wu64, w8, ble_t, ble_f, ieqt, ieqf, inet, inef, Bool.not_true, Bool.not_false, Bool.true_and, Bool.and_true, Bool.false_and, Bool.and_false, Bool.not_not, dTrue, dFalse, Int.toNat_natCast, List.length_append, List.length_cons, List.length_nil, meet_self, eta5, e]
        exact ih
      · have hs := hu.some (by omega)
        have e : (((mk rs i).length : Int) - 1).toNat = (mk rs i).length - 1 := by omega
        have e2 : (((mk rs i).getD ((mk rs i).length - 1) ((0 : Int), ((0 : Int), ((0 : Int), (false, ((0 : Int), ())))))).2.1 == (rs.getD i ((0 : Int), ((0 : Int), (false, ((0 : Int), ()))))).1 && (((mk rs i).getD ((mk rs i).length - 1) ((0 : Int), ((0 : Int), ((0 : Int), (false, ((0 : Int), ())))))).2.2.1 == (rs.getD i ((0 : Int), ((0 : Int), (false, ((0 : Int), ()))))).2.1 && (((mk rs i).getD ((mk rs i).length - 1) ((0 : Int), ((0 : Int), ((0 : Int), (false, ((0 : Int), ())))))).2.2.2.1 == (rs.getD i ((0 : Int), ((0 : Int), (false, ((0 : Int), ()))))).2.2.1 && (((mk rs i).getD ((mk rs i).length - 1) ((0 : Int), ((0 : Int), ((0 : Int), (false, ((0 : Int), ())))))).2.2.2.2.1 == (rs.getD i ((0 : Int), ((0 : Int), (false, ((0 : Int), ()))))).2.2.2.1)))) = sameRow (rw_ (mk rs i) ((mk rs i).length - 1)).2 (rs.getD i ((0 : Int), ((0 : Int), (false, ((0 : Int), ()))))) := by
          unfold sameRow rw_
          rw [Bool.and_true]
        simp (disch := first | omega | (simp only [List.length_append, List.length_cons, List.length_nil, List.length_set, List.length_take, List.length_drop, List.length_replicate]; omega) | fail) only [cond_t, cond_f, dt, df, w64, wu64, w8, ble_t, ble_f, ieqt, ieqf, inet, inef, Bool.not_true, Bool.not_false, Bool.true_and, Bool.and_true, Bool.false_and, Bool.and_false, Bool.not_not, dTrue, dFalse, Int.toNat_natCast, List.length_append, List.length_cons, List.length_nil, meet_self, e]
        rw [e2, hs.2]
        by_cases hx : rs.getD i ((0 : Int), ((0 : Int), (false, ((0 : Int), ())))) = rs.getD (i - 1) ((0 : Int), ((0 : Int), (false, ((0 : Int), ()))))
        · rw [if_pos ⟨hi, hx⟩] at ih
          rw [(sameRow_iff _ _).2 hx.symm]
          simp (disch := first | omega | (simp only [List.length_append, List.length_cons, List.length_nil, List.length_set, List.length_take, List.length_drop, List.length_replicate]; omega) | fail) only [cond_t, cond_f, dt, df, w64, wu64, w8, ble_t, ble_f, ieqt, ieqf, inet, inef, Bool.not_true, Bool.not_false, Bool.true_and, Bool.and_true, Bool.false_and, Bool.and_false, Bool.not_not, dTrue, dFalse, Int.toNat_natCast, List.length_append, List.length_cons, List.length_nil, meet_self]
          exact ih
        · rw [if_neg (fun g => hx g.2)] at ih
          have : sameRow (rs.getD (i - 1) ((0 : Int), ((0 : Int), (false, ((0 : Int), ()))))) (rs.getD i ((0 : Int), ((0 : Int), (false, ((0 : Int), ()))))) = false := by
            rw [← Bool.not_eq_true]; exact fun g => hx ((sameRow_iff _ _).1 g).symm
          rw [this]
          simp (disch := first | omega | (simp only [List.length_append, List.length_cons, List.length_nil, List.length_set, List.length_take, List.length_drop, List.length_replicate]; omega) | fail) only [cond_t, cond_f, dt, df, w64, wu64, w8, ble_t, ble_f, ieqt, ieqf, inet, inef, Bool.not_true, Bool.not_false, Bool.true_and, Bool.and_true, Bool.false_and, Bool.and_false, Bool.not_not, dTrue, dFalse, Int.toNat_natCast, List.length_append, List.length_cons, List.length_nil, meet_self, eta5]
          exact ih
    · obtain rfl : i = rs.length := by omega
      simp (disch := first | omega | (simp only [List.length_append, List.length_cons, List.length_nil, List.length_set, List.length_take, List.length_drop, List.length_replicate]; omega) | fail) only [cond_t, cond_f, dt, df, w64, wu64, w8, ble_t, ble_f, ieqt, ieqf, inet, inef, Bool.not_true, Bool.not_false, Bool.true_and, Bool.and_true, Bool.false_and, Bool.and_false, Bool.not_not, dTrue, dFalse, Int.toNat_natCast, List.length_append, List.length_cons, List.length_nil, meet_self]
theorem make_ (rs : List Ro) (hl : rs.length ≤ 300) (k : List Ru → Option Bool) : runs_Make rs k = k (mk rs rs.length) := by
  unfold runs_Make runs_Make.body
  exact makeL rs hl k ROUNDS 0 (by omega) (by unfold ROUNDS; omega)
theorem rmakeL (rs : List Ro) (hl : rs.length ≤ 300) (k : List Ru → Option Bool) : ∀ (n i : Nat), i ≤ rs.length → rs.length - i < n → ref13_Make_L0 n rs (i : Int) (mk rs i) k = k (mk rs rs.length)
  | 0, i, _, h => by omega
  | n + 1, i, h0, h1 => by
    rw [ref13_Make_L0]
    unfold ref13_Make_L0.body
    have hu := mk_up rs i
    have hul := hu.len
    by_cases h : i < rs.length
    · have ih := rmakeL rs hl k n (i + 1) (by omega) (by omega)
      rw [mk] at ih
      by_cases hi : i = 0
      · subst hi
        rw [if_neg (fun g => g.1 rfl)] at ih
        simp (disch := first | omega | (simp only [List.length_append, List.length_cons, List.length_nil, List.length_set, List.length_take, List.length_drop, List.length_replicate]; omega) | fail) only [cond_t, cond_f, dt, df, w64, wu64, w8, ble_t, ble_f, ieqt, ieqf, inet, inef, Bool.not_true, Bool.not_false, Bool.true_and, Bool.and_true, Bool.false_and, Bool.and_false, Bool.not_not, dTrue, dFalse, Int.toNat_natCast, List.length_append, List.length_cons, List.length_nil, meet_self, eta5]
        exact ih
      · have e : ((i : Int) - 1).toNat = i - 1 := by omega
        have e2 : ((rs.getD i ((0 : Int), ((0 : Int), (false, ((0 : Int), ()))))).1 == (rs.getD (i - 1) ((0 : Int), ((0 : Int), (false, ((0 : Int), ()))))).1 && ((rs.getD i ((0 : Int), ((0 : Int), (false, ((0 : Int), ()))))).2.1 == (rs.getD (i - 1) ((0 : Int), ((0 : Int), (false, ((0 : Int), ()))))).2.1 && ((rs.getD i ((0 : Int), ((0 : Int), (false, ((0 : Int), ()))))).2.2.1 == (rs.getD (i - 1) ((0 : Int), ((0 : Int), (false, ((0 : Int), ()))))).2.2.1 && ((rs.getD i ((0 : Int), ((0 : Int), (false, ((0 : Int), ()))))).2.2.2.1 == (rs.getD (i - 1) ((0 : Int), ((0 : Int), (false, ((0 : Int), ()))))).2.2.2.1)))) = sameRow (rs.getD i ((0 : Int), ((0 : Int), (false, ((0 : Int), ()))))) (rs.getD (i - 1) ((0 : Int), ((0 : Int), (false, ((0 : Int), ()))))) := by
          unfold sameRow
          rw [Bool.and_true]
        simp (disch := first | omega | (simp only [List.length_append, List.length_cons, List.length_nil, List.length_set, List.length_take, List.length_drop, List.length_replicate]; omega) | fail) only [cond_t, cond_f, dt, df, w64, wu64, w8, ble_t, ble_f, ieqt, ieqf, inet, inef, Bool.not_true, Bool.not_false, Bool.true_and, Bool.and_true, Bool.false_and, Bool.and_false, Bool.not_not, dTrue, dFalse, Int.toNat_natCast, List.length_append, List.length_cons, List.length_nil, meet_self, e]
        rw [e2]
        by_cases hx : rs.getD i ((0 : Int), ((0 : Int), (false, ((0 : Int), ())))) = rs.getD (i - 1) ((0 : Int), ((0 : Int), (false, ((0 : Int), ()))))
        · rw [if_pos ⟨hi, hx⟩] at ih
          rw [(sameRow_iff _ _).2 hx]
          simp (disch := first | omega | (simp only [List.length_append, List.length_cons, List.length_nil, List.length_set, List.length_take, List.length_drop, List.length_replicate]; omega) | fail) only [cond_t, cond_f, dt, df, w64, wu64, w8, ble_t, ble_f, ieqt, ieqf, inet, inef, Bool.not_true, Bool.not_false, Bool.true_and, Bool.and_true, Bool.false_and, Bool.and_false, Bool.not_not, dTrue, dFalse, Int.toNat_natCast, List.length_append, List.length_cons, List.length_nil, meet_self]
          exact ih
        · rw [if_neg (fun g => hx g.2)] at ih
          have : sameRow (rs.getD i ((0 : Int), ((0 : Int), (false, ((0 : Int), ()))))) (rs.getD (i - 1) ((0 : Int), ((0 : Int), (false, ((0 : Int), ()))))) = false := by
            rw [← Bool.not_eq_true]; exact fun g => hx ((sameRow_iff _ _).1 g)
          rw [this]
          simp (disch := first | omega | (simp only [List.length_append, List.length_cons, List.length_nil, List.length_set, List.length_take, List.length_drop, List.length_replicate]; omega) | fail) only [cond_t, cond_f, dt, df, w64, wu64, w8, ble_t, ble_f, ieqt, ieqf, inet, inef, Bool.not_true, Bool.not_false, Bool.true_and, Bool.and_true, Bool.false_and, Bool.and_false, Bool.not_not, dTrue, dFalse, Int.toNat_natCast, List.length_append, List.length_cons, List.length_nil, meet_self, eta5]
          exact ih
    · obtain rfl : i = rs.length := by omega
      simp (disch := first | omega | (simp only [List.length_append, List.length_cons, List.length_nil, List.length_set, List.length_take, List.length_drop, List.length_replicate]; omega) | fail) only [cond_t, cond_f, dt, df, w64, wu64, w8, ble_t, ble_f, ieqt, ieqf, inet, inef, Bool.not_true, Bool.not_false, Bool.true_and, Bool.and_true, Bool.false_and, Bool.and_false, Bool.not_not, dTrue, dFalse, Int.toNat_natCast, List.length_append, List.length_cons, List.length_nil, meet_self]
theorem rmake_ (rs : List Ro) (hl : rs.length ≤ 300) (k : List Ru → Option Bool) : ref13_Make rs k = k (mk rs rs.length) := by
  unfold ref13_Make ref13_Make.body
  exact rmakeL rs hl k ROUNDS 0 (by omega) (by unfold ROUNDS; omega)
theorem rowsS_get (l : List Ru) (n i : Nat) (h : i < n) : (rowsS l n).getD i ((0 : Int), ((0 : Int), (false, ((0 : Int), ())))) = (atS l (i : Int)).1 := by
  unfold rowsS
  rw [List.getD_eq_getElem?_getD, List.getElem?_map, List.getElem?_range h]
  rfl
theorem rows_iff (l : List Ru) (rs : List Ro) : rowsS l rs.length = rs ↔ ∀ i, i < rs.length → (atS l (i : Int)).1 = rs.getD i ((0 : Int), ((0 : Int), (false, ((0 : Int), ())))) := by
  constructor
  · intro h i hi
    have := rowsS_get l rs.length i hi
    rw [h] at this
    exact this.symm
  · intro h
    refine getD_ext ((0 : Int), ((0 : Int), (false, ((0 : Int), ())))) (rowsS_len _ _) fun i hi => ?_
    rw [rowsS_len] at hi
    rw [rowsS_get l _ i hi, h i hi]
theorem holds (rs : List Ro) (l : List Ru) (h0 : okD (.sl 33 (.st [(.int .i64), (.int .i64), .bool, (.int .i64)])) rs) (h1 : okD (.sl 50 (.st [(.int .i64), (.int .i64), (.int .i64), .bool, (.int .i64)])) l) : law13_RunsMade rs l (fun y => some y) = some true := by
  unfold law13_RunsMade law13_RunsMade.body law13_known
  by_cases c1 : (rs.length : Int) > 300
  · simp (disch := first | omega | (simp only [List.length_append, List.length_cons, List.length_nil, List.length_set, List.length_take, List.length_drop, List.length_replicate]; omega) | fail) only [cond_t, cond_f, dt, df, w64, wu64, w8, ble_t, ble_f, ieqt, ieqf, inet, inef, Bool.not_true, Bool.not_false, Bool.true_and, Bool.and_true, Bool.false_and, Bool.and_false, Bool.not_not, dTrue, dFalse, Int.toNat_natCast, List.length_append, List.length_cons, List.length_nil, meet_self]
  · by_cases c2 : (l.length : Int) > 300
    · simp (disch := first | omega | (simp only [List.length_append, List.length_cons, List.length_nil, List.length_set, List.length_take, List.length_drop, List.length_replicate]; omega) | fail) only [cond_t, cond_f, dt, df, w64, wu64, w8, ble_t, ble_f, ieqt, ieqf, inet, inef, Bool.not_true, Bool.not_false, Bool.true_and, Bool.and_true, Bool.false_and, Bool.and_false, Bool.not_not, dTrue, dFalse, Int.toNat_natCast, List.length_append, List.length_cons, List.length_nil, meet_self]
    · have hn : rs.length ≤ 300 := by omega
      have hmk := (mk_up rs rs.length).len
      have hp : place (rs.length : Int) = rs.length := by unfold place; omega
      have hrow : rowsS (mk rs rs.length) rs.length = rs := (rows_iff _ _).2 fun i hi => at_mk rs _ i hi
      simp (disch := first | omega | (simp only [List.length_append, List.length_cons, List.length_nil, List.length_set, List.length_take, List.length_drop, List.length_replicate]; omega) | fail) only [cond_t, cond_f, dt, df, w64, wu64, w8, ble_t, ble_f, ieqt, ieqf, inet, inef, Bool.not_true, Bool.not_false, Bool.true_and, Bool.and_true, Bool.false_and, Bool.and_false, Bool.not_not, dTrue, dFalse, Int.toNat_natCast, List.length_append, List.length_cons, List.length_nil, meet_self]
      rw [make_ rs hn, rmake_ rs hn, ref13_Same_ _ _ (by omega)]
      simp (disch := first | omega | (simp only [List.length_append, List.length_cons, List.length_nil, List.length_set, List.length_take, List.length_drop, List.length_replicate]; omega) | fail) only [cond_t, cond_f, dt, df, w64, wu64, w8, ble_t, ble_f, ieqt, ieqf, inet, inef, Bool.not_true, Bool.not_false, Bool.true_and, Bool.and_true, Bool.false_and, Bool.and_false, Bool.not_not, dTrue, dFalse, Int.toNat_natCast, List.length_append, List.length_cons, List.length_nil, meet_self]
      rw [runs_Check_ _ (by omega), mk_check rs _ hn]
      simp (disch := first | omega | (simp only [List.length_append, List.length_cons, List.length_nil, List.length_set, List.length_take, List.length_drop, List.length_replicate]; omega) | fail) only [cond_t, cond_f, dt, df, w64, wu64, w8, ble_t, ble_f, ieqt, ieqf, inet, inef, Bool.not_true, Bool.not_false, Bool.true_and, Bool.and_true, Bool.false_and, Bool.and_false, Bool.not_not, dTrue, dFalse, Int.toNat_natCast, List.length_append, List.length_cons, List.length_nil, meet_self]
      rw [runs_Rows_ _ (by omega), hp, ref13_SameRows_ _ _ (by rw [rowsS_len]; omega), dt hrow]
      simp (disch := first | omega | (simp only [List.length_append, List.length_cons, List.length_nil, List.length_set, List.length_take, List.length_drop, List.length_replicate]; omega) | fail) only [cond_t, cond_f, dt, df, w64, wu64, w8, ble_t, ble_f, ieqt, ieqf, inet, inef, Bool.not_true, Bool.not_false, Bool.true_and, Bool.and_true, Bool.false_and, Bool.and_false, Bool.not_not, dTrue, dFalse, Int.toNat_natCast, List.length_append, List.length_cons, List.length_nil, meet_self]
      rw [runs_Checkv1_ l (by omega)]
      by_cases c3 : checkS l (rs.length : Int) = 0
      · rw [c3]
        simp (disch := first | omega | (simp only [List.length_append, List.length_cons, List.length_nil, List.length_set, List.length_take, List.length_drop, List.length_replicate]; omega) | fail) only [cond_t, cond_f, dt, df, w64, wu64, w8, ble_t, ble_f, ieqt, ieqf, inet, inef, Bool.not_true, Bool.not_false, Bool.true_and, Bool.and_true, Bool.false_and, Bool.and_false, Bool.not_not, dTrue, dFalse, Int.toNat_natCast, List.length_append, List.length_cons, List.length_nil, meet_self]
        rw [rrows_ l (by omega), hp, ref13_SameRows_ _ _ (by rw [rowsS_len]; omega)]
        by_cases c4 : rowsS l rs.length = rs
        · rw [dt c4, cond_t, ref13_Samev1_ _ _ (by omega), whole rs l rs.length (check_good c3) ((rows_iff _ _).1 c4)]
          simp (disch := first | omega | (simp only [List.length_append, List.length_cons, List.length_nil, List.length_set, List.length_take, List.length_drop, List.length_replicate]; omega) | fail) only [cond_t, cond_f, dt, df, w64, wu64, w8, ble_t, ble_f, ieqt, ieqf, inet, inef, Bool.not_true, Bool.not_false, Bool.true_and, Bool.and_true, Bool.false_and, Bool.and_false, Bool.not_not, dTrue, dFalse, Int.toNat_natCast, List.length_append, List.length_cons, List.length_nil, meet_self]
        · rw [df c4, cond_f]
      · simp (disch := first | omega | (simp only [List.length_append, List.length_cons, List.length_nil, List.length_set, List.length_take, List.length_drop, List.length_replicate]; omega) | fail) only [cond_t, cond_f, dt, df, w64, wu64, w8, ble_t, ble_f, ieqt, ieqf, inet, inef, Bool.not_true, Bool.not_false, Bool.true_and, Bool.and_true, Bool.false_and, Bool.and_false, Bool.not_not, dTrue, dFalse, Int.toNat_natCast, List.length_append, List.length_cons, List.length_nil, meet_self]

end Go.Proofs.Ytbpjepcgokoaiaa.runsMade
