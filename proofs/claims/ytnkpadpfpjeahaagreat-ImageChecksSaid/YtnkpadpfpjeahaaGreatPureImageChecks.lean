/- What the plain functions answer: the law, without program or memory. -/
import Derived.Test.YtnkpadpfpjeahaaGreatMK
import Derived.IntWalk
import Derived.Laws.Strings
namespace Go.Proofs.YtnkpadpfpjeahaaGreat.imageChecks
open Go.AX Go.Proofs.YtnkpadpfpjeahaaGreat.k
set_option linter.unusedVariables false
set_option linter.unusedSimpArgs false
theorem cond_ite (b : Bool) (x y : Option Bool) : cond_ b x y = if b = true then x else y := by cases b <;> rfl
@[simp] theorem cond_t (x y : Option Bool) : cond_ true x y = x := (cond_ite true x y).trans (if_pos rfl)
@[simp] theorem cond_f (x y : Option Bool) : cond_ false x y = y := (cond_ite false x y).trans (if_neg (by decide))
theorem cond_pos {b : Bool} {x y : Option Bool} (h : b = true) : cond_ b x y = x := by rw [h]; rfl
theorem cond_neg {b : Bool} {x y : Option Bool} (h : b = false) : cond_ b x y = y := by rw [h]; rfl
@[simp] theorem meet_self (x : Option Bool) : meet x x = x := by
  cases x with
  | none => rfl
  | some a => simp [meet]
theorem w64 {n : Int} (h1 : -9223372036854775808 ≤ n) (h2 : n ≤ 9223372036854775807) : IntKind.wrap .i64 n = n := IntWalk.i64_in n ⟨h1, h2⟩
theorem w8 {n : Int} (h1 : 0 ≤ n) (h2 : n ≤ 255) : IntKind.wrap .u8 n = n := IntWalk.u8_in n ⟨h1, h2⟩
theorem wu64 {n : Int} (h1 : 0 ≤ n) (h2 : n ≤ 18446744073709551615) : IntKind.wrap .u64 n = n := IntWalk.u64_in n ⟨h1, h2⟩
theorem ble_t {a b : Nat} (h : a ≤ b) : Nat.ble a b = true := by rw [Nat.ble_eq]; exact h
theorem ok64 {n : Int} (h : okD (.int .i64) n) : -9223372036854775808 ≤ n ∧ n ≤ 9223372036854775807 := by
  have := okD_int.1 h
  simpa [Lit.wf, IntKind.min, IntKind.max, IntKind.bits, IntKind.signed, i_] using this
theorem not_t {p : Prop} [Decidable p] (h : ¬p) : (!decide p) = true := by simp [h]
theorem not_f {p : Prop} [Decidable p] (h : p) : (!decide p) = false := by simp [h]
theorem cond_congr {b c : Bool} (h : b = c) (x y : Option Bool) : cond_ b x y = cond_ c x y := by rw [h]
attribute [local congr] cond_congr
theorem dt {p : Prop} [Decidable p] (h : p) : decide p = true := decide_eq_true h
theorem df {p : Prop} [Decidable p] (h : ¬p) : decide p = false := decide_eq_false h
theorem ieqt {a b : Int} (h : a = b) : (a == b) = true := by simp [h]
theorem ieqf {a b : Int} (h : a ≠ b) : (a == b) = false := by simp [h]
theorem inet {a b : Int} (h : a ≠ b) : (a != b) = true := by simp [h]
theorem inef {a b : Int} (h : a = b) : (a != b) = false := by simp [h]
theorem ble_f {a b : Nat} (h : b < a) : Nat.ble a b = false := by
  cases hb : Nat.ble a b with
  | false => rfl
  | true => rw [Nat.ble_eq] at hb; omega
theorem rounds_ : ∃ R, ROUNDS = R ∧ 1000000000 ≤ R := ⟨ROUNDS, rfl, by unfold ROUNDS; omega⟩
theorem dTrue {i : Decidable True} : decide True = true := dt trivial
theorem dFalse {i : Decidable False} : decide False = false := df fun h => h
theorem if_iff {α : Type} {p q : Prop} [Decidable p] [Decidable q] (h : p ↔ q) (a b : α) : (if p then a else b) = (if q then a else b) := by
  by_cases hp : p
  · rw [if_pos hp, if_pos (h.1 hp)]
  · rw [if_neg hp, if_neg (fun g => hp (h.2 g))]
abbrev Ro := Int × Int × Bool × Int × Unit
abbrev Ru := Int × Int × Int × Bool × Int × Unit
def rw_ (l : List Ru) (i : Nat) : Ru := l.getD i ((0 : Int), ((0 : Int), ((0 : Int), (false, ((0 : Int), ())))))
def sameRow (a b : Ro) : Bool := (a.1 == b.1) && ((a.2.1 == b.2.1) && ((a.2.2.1 == b.2.2.1) && ((a.2.2.2.1 == b.2.2.2.1) && true)))
theorem sameRow_iff (a b : Ro) : sameRow a b = true ↔ a = b := by
  obtain ⟨a1, a2, a3, a4, ⟨⟩⟩ := a
  obtain ⟨b1, b2, b3, b4, ⟨⟩⟩ := b
  unfold sameRow
  simp
/-- how many runs, from the first on, begin at p or ahead of it -/
def cnt : List Ru → Int → Nat
  | [], _ => 0
  | x :: r, p => if x.1 > p then 0 else cnt r p + 1
theorem cnt_le : ∀ (l : List Ru) (p : Int), cnt l p ≤ l.length
  | [], _ => Nat.le_refl _
  | x :: r, p => by
    rw [cnt]
    split
    · exact Nat.zero_le _
    · have := cnt_le r p
      rw [List.length_cons]; omega
theorem cnt_drop : ∀ (l : List Ru) (p : Int) (i : Nat), i ≤ cnt l p → cnt l p = i + cnt (l.drop i) p
  | l, p, 0, _ => by simp
  | [], p, i + 1, h => by simp [cnt] at h
  | x :: r, p, i + 1, h => by
    rw [cnt] at h ⊢
    split at h
    · omega
    · rename_i hx
      rw [if_neg hx, List.drop_succ_cons, cnt_drop r p i (by omega)]
      omega
theorem cnt_stop {l : List Ru} {p : Int} {i : Nat} (hi : i < l.length) (h : i ≤ cnt l p) : ((rw_ l i).1 > p ↔ cnt l p = i) := by
  have := cnt_drop l p i h
  rw [List.drop_eq_getElem_cons hi, cnt] at this
  have e : rw_ l i = l[i] := by unfold rw_; rw [List.getD_eq_getElem?_getD, List.getElem?_eq_getElem hi]; rfl
  rw [e]
  split at this <;> omega
def atS (l : List Ru) (p : Int) : Ro × Bool := if cnt l p = 0 then (((0 : Int), ((0 : Int), (false, ((0 : Int), ())))), false) else ((rw_ l (cnt l p - 1)).2, true)
theorem eta5 (a : Ro) : (a.1, a.2.1, a.2.2.1, a.2.2.2.1, ()) = a := rfl
theorem slices_IndexFunc_api_Run_api_Runv1_L0_ (l : List Ru) (p : Int) (hl : l.length ≤ 100000) (k1 : Int → Int → Option Bool) (k2 : Int → Option Bool) : ∀ (n i : Nat), i ≤ cnt l p → i ≤ l.length → l.length - i < n →
    slices_IndexFunc_api_Run_api_Runv1_L0 n l (l.length : Int) (i : Int) p k1 k2 = if cnt l p < l.length then k1 (cnt l p) p else k2 p
  | 0, i, _, _, h => by omega
  | n + 1, i, h0, h1, h2 => by
    rw [slices_IndexFunc_api_Run_api_Runv1_L0]
    unfold slices_IndexFunc_api_Run_api_Runv1_L0.body
    have hc := cnt_le l p
    by_cases h : i < l.length
    · have hs := cnt_stop h h0
      unfold runs_Atfn1 runs_Atfn1.body
      unfold rw_ at hs
      simp (disch := first | omega | (simp only [List.length_append, List.length_cons, List.length_nil, List.length_set, List.length_take, List.length_drop, List.length_replicate]; omega) | fail) only [cond_t, cond_f, dt, df, w64, wu64, w8, ble_t, ble_f, ieqt, ieqf, inet, inef, Bool.not_true, Bool.not_false, Bool.true_and, Bool.and_true, Bool.false_and, Bool.and_false, Bool.not_not, dTrue, dFalse, Int.toNat_natCast, List.length_append, List.length_cons, List.length_nil, meet_self]
      by_cases h3 : (l.getD i ((0 : Int), ((0 : Int), ((0 : Int), (false, ((0 : Int), ())))))).1 > p
      · have := hs.1 h3
        rw [dt h3, cond_t, if_pos (by omega), this]
      · have : ¬ cnt l p = i := fun e => h3 (hs.2 e)
        rw [df h3, cond_f]
        exact slices_IndexFunc_api_Run_api_Runv1_L0_ l p hl k1 k2 n (i + 1) (by omega) (by omega) (by omega)
    · simp (disch := first | omega | (simp only [List.length_append, List.length_cons, List.length_nil, List.length_set, List.length_take, List.length_drop, List.length_replicate]; omega) | fail) only [cond_t, cond_f, dt, df, w64, wu64, w8, ble_t, ble_f, ieqt, ieqf, inet, inef, Bool.not_true, Bool.not_false, Bool.true_and, Bool.and_true, Bool.false_and, Bool.and_false, Bool.not_not, dTrue, dFalse, Int.toNat_natCast, List.length_append, List.length_cons, List.length_nil, meet_self]
      rw [if_neg (by omega)]
theorem slices_IndexFunc_api_Run_api_Runv1_ (l : List Ru) (p : Int) (hl : l.length ≤ 100000) (k : Int → Int → Option Bool) : slices_IndexFunc_api_Run_api_Runv1 l p k = k (if cnt l p < l.length then (cnt l p : Int) else -1) p := by
  unfold slices_IndexFunc_api_Run_api_Runv1 slices_IndexFunc_api_Run_api_Runv1.body
  rw [show (0 : Int) = ((0 : Nat) : Int) from rfl, slices_IndexFunc_api_Run_api_Runv1_L0_ l p hl _ _ ROUNDS 0 (by omega) (by omega) (by unfold ROUNDS; omega)]
  split <;> rfl
theorem runs_Atv1_ (l : List Ru) (p : Int) (hl : l.length ≤ 100000) (k : Ro → Bool → Option Bool) : runs_Atv1 l p k = k (atS l p).1 (atS l p).2 := by
  unfold runs_Atv1 runs_Atv1.body atS rw_
  rw [slices_IndexFunc_api_Run_api_Runv1_ l p hl]
  have hc := cnt_le l p
  by_cases h : cnt l p < l.length
  · rw [if_pos h]
    by_cases h0 : cnt l p = 0
    · rw [if_pos h0, h0]
      simp (disch := first | omega | (simp only [List.length_append, List.length_cons, List.length_nil, List.length_set, List.length_take, List.length_drop, List.length_replicate]; omega) | fail) only [cond_t, cond_f, dt, df, w64, wu64, w8, ble_t, ble_f, ieqt, ieqf, inet, inef, Bool.not_true, Bool.not_false, Bool.true_and, Bool.and_true, Bool.false_and, Bool.and_false, Bool.not_not, dTrue, dFalse, Int.toNat_natCast, List.length_append, List.length_cons, List.length_nil, meet_self]
    · have e : ((cnt l p : Int) - 1).toNat = cnt l p - 1 := by omega
      rw [if_neg h0]
      simp (disch := first | omega | (simp only [List.length_append, List.length_cons, List.length_nil, List.length_set, List.length_take, List.length_drop, List.length_replicate]; omega) | fail) only [cond_t, cond_f, dt, df, w64, wu64, w8, ble_t, ble_f, ieqt, ieqf, inet, inef, Bool.not_true, Bool.not_false, Bool.true_and, Bool.and_true, Bool.false_and, Bool.and_false, Bool.not_not, dTrue, dFalse, Int.toNat_natCast, List.length_append, List.length_cons, List.length_nil, meet_self, e]
  · rw [if_neg h]
    have e2 : cnt l p = l.length := by omega
    rw [e2]
    by_cases h0 : l.length = 0
    · rw [if_pos h0]
      simp (disch := first | omega | (simp only [List.length_append, List.length_cons, List.length_nil, List.length_set, List.length_take, List.length_drop, List.length_replicate]; omega) | fail) only [cond_t, cond_f, dt, df, w64, wu64, w8, ble_t, ble_f, ieqt, ieqf, inet, inef, Bool.not_true, Bool.not_false, Bool.true_and, Bool.and_true, Bool.false_and, Bool.and_false, Bool.not_not, dTrue, dFalse, Int.toNat_natCast, List.length_append, List.length_cons, List.length_nil, meet_self]
    · have e : ((l.length : Int) - 1).toNat = l.length - 1 := by omega
      rw [if_neg h0]
      simp (disch := first | omega | (simp only [List.length_append, List.length_cons, List.length_nil, List.length_set, List.length_take, List.length_drop, List.length_replicate]; omega) | fail) only [cond_t, cond_f, dt, df, w64, wu64, w8, ble_t, ble_f, ieqt, ieqf, inet, inef, Bool.not_true, Bool.not_false, Bool.true_and, Bool.and_true, Bool.false_and, Bool.and_false, Bool.not_not, dTrue, dFalse, Int.toNat_natCast, List.length_append, List.length_cons, List.length_nil, meet_self, e]
theorem ratL (l : List Ru) (p : Int) (hl : l.length ≤ 100000) (z : Ro) (k : Bool → Ro → Ro → Option Bool) : ∀ (n i : Nat), i ≤ cnt l p → i ≤ l.length → l.length - i < n →
    ref13_At_L0 n l p (decide (i ≠ 0)) (i : Int) z (if i = 0 then ((0 : Int), ((0 : Int), (false, ((0 : Int), ())))) else (rw_ l (i - 1)).2) k = k (atS l p).2 z (atS l p).1
  | 0, i, _, _, h => by omega
  | n + 1, i, h0, h1, h2 => by
    rw [ref13_At_L0]
    unfold ref13_At_L0.body
    have hc := cnt_le l p
    have fin : cnt l p = i → k (decide (i ≠ 0)) z (if i = 0 then ((0 : Int), ((0 : Int), (false, ((0 : Int), ())))) else (rw_ l (i - 1)).2) = k (atS l p).2 z (atS l p).1 := by
      intro e
      unfold atS
      rw [e]
      by_cases h : i = 0
      · rw [if_pos h, if_pos h, df (fun g => g h)]
      · rw [if_neg h, if_neg h, dt h]
    by_cases h : i < l.length
    · have hs := cnt_stop h h0
      unfold rw_ at hs
      by_cases h3 : (l.getD i ((0 : Int), ((0 : Int), ((0 : Int), (false, ((0 : Int), ())))))).1 > p
      · simp (disch := first | omega | (simp only [List.length_append, List.length_cons, List.length_nil, List.length_set, List.length_take, List.length_drop, List.length_replicate]; omega) | fail) only [cond_t, cond_f, dt, df, w64, wu64, w8, ble_t, ble_f, ieqt, ieqf, inet, inef, Bool.not_true, Bool.not_false, Bool.true_and, Bool.and_true, Bool.false_and, Bool.and_false, Bool.not_not, dTrue, dFalse, Int.toNat_natCast, List.length_append, List.length_cons, List.length_nil, meet_self]
        exact fin (hs.1 h3)
      · have h4 : ¬ cnt l p = i := fun e => h3 (hs.2 e)
        simp (disch := first | omega | (simp only [List.length_append, List.length_cons, List.length_nil, List.length_set, List.length_take, List.length_drop, List.length_replicate]; omega) | fail) only [cond_t, cond_f, dt, df, w64, wu64, w8, ble_t, ble_f, ieqt, ieqf, inet, inef, Bool.not_true, Bool.not_false, Bool.true_and, Bool.and_true, Bool.false_and, Bool.and_false, Bool.not_not, dTrue, dFalse, Int.toNat_natCast, List.length_append, List.length_cons, List.length_nil, meet_self]
        have := ratL l p hl z k n (i + 1) (by omega) (by omega) (by omega)
        rw [dt (p := i + 1 ≠ 0) (by omega), if_neg (by omega)] at this
        exact this
    · simp (disch := first | omega | (simp only [List.length_append, List.length_cons, List.length_nil, List.length_set, List.length_take, List.length_drop, List.length_replicate]; omega) | fail) only [cond_t, cond_f, dt, df, w64, wu64, w8, ble_t, ble_f, ieqt, ieqf, inet, inef, Bool.not_true, Bool.not_false, Bool.true_and, Bool.and_true, Bool.false_and, Bool.and_false, Bool.not_not, dTrue, dFalse, Int.toNat_natCast, List.length_append, List.length_cons, List.length_nil, meet_self]
      exact fin (by omega)
theorem rat_ (l : List Ru) (p : Int) (hl : l.length ≤ 100000) (k : Ro → Bool → Option Bool) : ref13_At l p k = k (atS l p).1 (atS l p).2 := by
  unfold ref13_At ref13_At.body
  exact ratL l p hl ((0 : Int), ((0 : Int), (false, ((0 : Int), ())))) _ ROUNDS 0 (by omega) (by omega) (by unfold ROUNDS; omega)
/-- lists alike -/
theorem ex_step {P : Nat → Prop} {i m : Nat} (h : i < m) : (∃ j, i ≤ j ∧ j < m ∧ P j) ↔ P i ∨ ∃ j, i + 1 ≤ j ∧ j < m ∧ P j := by
  constructor
  · rintro ⟨j, h1, h2, h3⟩
    by_cases e : i = j
    · subst e; exact .inl h3
    · exact .inr ⟨j, by omega, h2, h3⟩
  · rintro (h1 | ⟨j, h1, h2, h3⟩)
    · exact ⟨i, Nat.le_refl _, h, h1⟩
    · exact ⟨j, by omega, h2, h3⟩
theorem ex_none {P : Nat → Prop} {i m : Nat} (h : ¬ i < m) : ¬ ∃ j, i ≤ j ∧ j < m ∧ P j := by
  rintro ⟨j, h1, h2, _⟩
  omega
/-- may a run begin where it does? -/
def badAt (l : List Ru) (n : Int) (i : Nat) : Prop := (rw_ l i).1 ≥ n ∨ (i = 0 ∧ (rw_ l 0).1 ≠ 0) ∨ (0 < i ∧ (rw_ l i).1 ≤ (rw_ l (i - 1)).1)
def twiceAt (l : List Ru) (i : Nat) : Prop := (rw_ l i).2 = (rw_ l (i - 1)).2
open Classical in
noncomputable def checkS (l : List Ru) (n : Int) : Int := if 4096 < l.length then 19 else if (l.length = 0) ≠ (n ≤ 0) then 9 else if ∃ j, 0 ≤ j ∧ j < l.length ∧ badAt l n j then 9 else if ∃ j, 1 ≤ j ∧ j < l.length ∧ twiceAt l j then 12 else 0
open Classical in
theorem runs_Checkv2_L1_ (l : List Ru) (p : Int) (hl : l.length ≤ 100000) (k1 : Int → Option Bool) (k2 : List Ru → Option Bool) : ∀ (n i : Nat), i ≤ l.length → l.length - i < n →
    (0 < i → 0 ≤ (rw_ l (i - 1)).1) → runs_Checkv2_L1 n l p (if i = 0 then -1 else (rw_ l (i - 1)).1) l (l.length : Int) (i : Int) k1 k2 = if ∃ j, i ≤ j ∧ j < l.length ∧ badAt l p j then k1 9 else k2 l
  | 0, i, _, h, _ => by omega
  | n + 1, i, h0, h1, hp => by
    rw [runs_Checkv2_L1]
    unfold runs_Checkv2_L1.body
    by_cases h : i < l.length
    · rw [if_iff (ex_step h)]
      have ih := runs_Checkv2_L1_ l p hl k1 k2 n (i + 1) (by omega) (by omega)
      rw [if_neg (by omega : ¬ i + 1 = 0), Nat.add_sub_cancel] at ih
      rw [cond_pos (dt (by omega)), cond_pos (by simp; omega), Int.toNat_natCast]
      show cond_ (!decide ((rw_ l i).1 ≤ _)) (cond_ (!decide ((rw_ l i).1 ≥ p)) (cond_ ((i : Int) == 0) (cond_ ((rw_ l i).1 != 0) (k1 9) (runs_Checkv2_L1 n l p (rw_ l i).1 l _ _ k1 k2)) (runs_Checkv2_L1 n l p (rw_ l i).1 l _ _ k1 k2)) (k1 9)) (k1 9) = _
      rw [w64 (n := (i : Int) + 1) (by omega) (by omega), show (i : Int) + 1 = ((i + 1 : Nat) : Int) by omega]
      by_cases hi : i = 0
      · subst hi
        rw [if_pos rfl]
        by_cases hb : badAt l p 0
        · rw [if_pos (.inl hb)]
          unfold badAt at hb
          by_cases g1 : (rw_ l 0).1 ≤ -1
          · simp (disch := first | omega | (simp only [List.length_append, List.length_cons, List.length_nil, List.length_set, List.length_take, List.length_drop, List.length_replicate]; omega) | fail) only [cond_t, cond_f, dt, df, w64, wu64, w8, ble_t, ble_f, ieqt, ieqf, inet, inef, Bool.not_true, Bool.not_false, Bool.true_and, Bool.and_true, Bool.false_and, Bool.and_false, Bool.not_not, dTrue, dFalse, Int.toNat_natCast, List.length_append, List.length_cons, List.length_nil, meet_self]
          · by_cases g2 : (rw_ l 0).1 ≥ p
            · simp (disch := first | omega | (simp only [List.length_append, List.length_cons, List.length_nil, List.length_set, List.length_take, List.length_drop, List.length_replicate]; omega) | fail) only [cond_t, cond_f, dt, df, w64, wu64, w8, ble_t, ble_f, ieqt, ieqf, inet, inef, Bool.not_true, Bool.not_false, Bool.true_and, Bool.and_true, Bool.false_and, Bool.and_false, Bool.not_not, dTrue, dFalse, Int.toNat_natCast, List.length_append, List.length_cons, List.length_nil, meet_self]
            · simp (disch := first | omega | (simp only [List.length_append, List.length_cons, List.length_nil, List.length_set, List.length_take, List.length_drop, List.length_replicate]; omega) | fail) only [cond_t, cond_f, dt, df, w64, wu64, w8, ble_t, ble_f, ieqt, ieqf, inet, inef, Bool.not_true, Bool.not_false, Bool.true_and, Bool.and_true, Bool.false_and, Bool.and_false, Bool.not_not, dTrue, dFalse, Int.toNat_natCast, List.length_append, List.length_cons, List.length_nil, meet_self]
        · rw [if_iff (or_iff_right hb), ← ih (fun _ => by unfold badAt at hb; omega)]
          unfold badAt at hb
          simp (disch := first | omega | (simp only [List.length_append, List.length_cons, List.length_nil, List.length_set, List.length_take, List.length_drop, List.length_replicate]; omega) | fail) only [cond_t, cond_f, dt, df, w64, wu64, w8, ble_t, ble_f, ieqt, ieqf, inet, inef, Bool.not_true, Bool.not_false, Bool.true_and, Bool.and_true, Bool.false_and, Bool.and_false, Bool.not_not, dTrue, dFalse, Int.toNat_natCast, List.length_append, List.length_cons, List.length_nil, meet_self]
      · rw [if_neg hi]
        have hp := hp (by omega)
        by_cases hb : badAt l p i
        · rw [if_pos (.inl hb)]
          unfold badAt at hb
          by_cases g1 : (rw_ l i).1 ≤ (rw_ l (i - 1)).1
          · simp (disch := first | omega | (simp only [List.length_append, List.length_cons, List.length_nil, List.length_set, List.length_take, List.length_drop, List.length_replicate]; omega) | fail) only [cond_t, cond_f, dt, df, w64, wu64, w8, ble_t, ble_f, ieqt, ieqf, inet, inef, Bool.not_true, Bool.not_false, Bool.true_and, Bool.and_true, Bool.false_and, Bool.and_false, Bool.not_not, dTrue, dFalse, Int.toNat_natCast, List.length_append, List.length_cons, List.length_nil, meet_self]
          · simp (disch := first | omega | (simp only [List.length_append, List.length_cons, List.length_nil, List.length_set, List.length_take, List.length_drop, List.length_replicate]; omega) | fail) only [cond_t, cond_f, dt, df, w64, wu64, w8, ble_t, ble_f, ieqt, ieqf, inet, inef, Bool.not_true, Bool.not_false, Bool.true_and, Bool.and_true, Bool.false_and, Bool.and_false, Bool.not_not, dTrue, dFalse, Int.toNat_natCast, List.length_append, List.length_cons, List.length_nil, meet_self]
        · rw [if_iff (or_iff_right hb), ← ih (fun _ => by unfold badAt at hb; omega)]
          unfold badAt at hb
          simp (disch := first | omega | (simp only [List.length_append, List.length_cons, List.length_nil, List.length_set, List.length_take, List.length_drop, List.length_replicate]; omega) | fail) only [cond_t, cond_f, dt, df, w64, wu64, w8, ble_t, ble_f, ieqt, ieqf, inet, inef, Bool.not_true, Bool.not_false, Bool.true_and, Bool.and_true, Bool.false_and, Bool.and_false, Bool.not_not, dTrue, dFalse, Int.toNat_natCast, List.length_append, List.length_cons, List.length_nil, meet_self]
    · rw [if_neg (ex_none h)]
      simp (disch := first | omega | (simp only [List.length_append, List.length_cons, List.length_nil, List.length_set, List.length_take, List.length_drop, List.length_replicate]; omega) | fail) only [cond_t, cond_f, dt, df, w64, wu64, w8, ble_t, ble_f, ieqt, ieqf, inet, inef, Bool.not_true, Bool.not_false, Bool.true_and, Bool.and_true, Bool.false_and, Bool.and_false, Bool.not_not, dTrue, dFalse, Int.toNat_natCast, List.length_append, List.length_cons, List.length_nil, meet_self]
open Classical in
theorem runs_Checkv2_L3_ (l : List Ru) (hl : l.length ≤ 100000) (k1 : Int → Option Bool) (k2 : Option Bool) : ∀ (n i : Nat), 1 ≤ i → l.length - i < n →
    runs_Checkv2_L3 n l (i : Int) k1 k2 = if ∃ j, i ≤ j ∧ j < l.length ∧ twiceAt l j then k1 12 else k2
  | 0, i, _, h => by omega
  | n + 1, i, h0, h1 => by
    rw [runs_Checkv2_L3]
    unfold runs_Checkv2_L3.body
    by_cases h : i < l.length
    · rw [if_iff (ex_step h)]
      have ih := runs_Checkv2_L3_ l hl k1 k2 n (i + 1) (by omega) (by omega)
      have e : ((i : Int) - 1).toNat = i - 1 := by omega
      rw [cond_pos (dt (by omega)), cond_pos (by simp; omega), w64 (n := (i : Int) - 1) (by omega) (by omega), cond_pos (by simp; omega), Int.toNat_natCast, e]
      show cond_ (sameRow (rw_ l i).2 (rw_ l (i - 1)).2) (k1 12) (runs_Checkv2_L3 n l _ k1 k2) = _
      rw [w64 (n := (i : Int) + 1) (by omega) (by omega), show (i : Int) + 1 = ((i + 1 : Nat) : Int) by omega]
      by_cases hx : twiceAt l i
      · rw [if_pos (.inl hx), (sameRow_iff _ _).2 hx, cond_t]
      · have : sameRow (rw_ l i).2 (rw_ l (i - 1)).2 = false := by
          rw [← Bool.not_eq_true]; exact fun g => hx ((sameRow_iff _ _).1 g)
        rw [if_iff (or_iff_right hx), ← ih, this, cond_f]
    · rw [if_neg (ex_none h)]
      simp (disch := first | omega | (simp only [List.length_append, List.length_cons, List.length_nil, List.length_set, List.length_take, List.length_drop, List.length_replicate]; omega) | fail) only [cond_t, cond_f, dt, df, w64, wu64, w8, ble_t, ble_f, ieqt, ieqf, inet, inef, Bool.not_true, Bool.not_false, Bool.true_and, Bool.and_true, Bool.false_and, Bool.and_false, Bool.not_not, dTrue, dFalse, Int.toNat_natCast, List.length_append, List.length_cons, List.length_nil, meet_self]
theorem runs_Checkv2_ (l : List Ru) (hl : l.length ≤ 100000) (p : Int) (k : Int → Option Bool) : runs_Checkv2 l p k = k (checkS l p) := by
  unfold runs_Checkv2 runs_Checkv2.body checkS
  by_cases h1 : 4096 < l.length
  · rw [if_pos h1]
    simp (disch := first | omega | (simp only [List.length_append, List.length_cons, List.length_nil, List.length_set, List.length_take, List.length_drop, List.length_replicate]; omega) | fail) only [cond_t, cond_f, dt, df, w64, wu64, w8, ble_t, ble_f, ieqt, ieqf, inet, inef, Bool.not_true, Bool.not_false, Bool.true_and, Bool.and_true, Bool.false_and, Bool.and_false, Bool.not_not, dTrue, dFalse, Int.toNat_natCast, List.length_append, List.length_cons, List.length_nil, meet_self]
  · rw [if_neg h1, cond_neg (df (by omega))]
    by_cases h2 : (l.length = 0) = (p ≤ 0)
    · have e : (((l.length : Int) == 0) == decide (p ≤ 0)) = true := by
        by_cases h3 : l.length = 0
        · have : p ≤ 0 := h2 ▸ h3
          simp (disch := first | omega | (simp only [List.length_append, List.length_cons, List.length_nil, List.length_set, List.length_take, List.length_drop, List.length_replicate]; omega) | fail) only [cond_t, cond_f, dt, df, w64, wu64, w8, ble_t, ble_f, ieqt, ieqf, inet, inef, Bool.not_true, Bool.not_false, Bool.true_and, Bool.and_true, Bool.false_and, Bool.and_false, Bool.not_not, dTrue, dFalse, Int.toNat_natCast, List.length_append, List.length_cons, List.length_nil, meet_self, beq_self_eq_true]
        · have : ¬ p ≤ 0 := fun g => h3 (h2.symm ▸ g)
          simp (disch := first | omega | (simp only [List.length_append, List.length_cons, List.length_nil, List.length_set, List.length_take, List.length_drop, List.length_replicate]; omega) | fail) only [cond_t, cond_f, dt, df, w64, wu64, w8, ble_t, ble_f, ieqt, ieqf, inet, inef, Bool.not_true, Bool.not_false, Bool.true_and, Bool.and_true, Bool.false_and, Bool.and_false, Bool.not_not, dTrue, dFalse, Int.toNat_natCast, List.length_append, List.length_cons, List.length_nil, meet_self, beq_self_eq_true]
      rw [if_neg (fun g => g h2), e]
      rw [cond_neg (by rfl)]
      refine (runs_Checkv2_L1_ l p hl _ _ ROUNDS 0 (by omega) (by unfold ROUNDS; omega) (fun h => by omega)).trans ?_
      split
      · rfl
      · refine (runs_Checkv2_L3_ l hl _ _ ROUNDS 1 (by omega) (by unfold ROUNDS; omega)).trans ?_
        split <;> rfl
    · have e : (((l.length : Int) == 0) == decide (p ≤ 0)) = false := by
        by_cases h3 : l.length = 0
        · have : ¬ p ≤ 0 := fun g => h2 (by rw [eq_true h3, eq_true g])
          simp (disch := first | omega | (simp only [List.length_append, List.length_cons, List.length_nil, List.length_set, List.length_take, List.length_drop, List.length_replicate]; omega) | fail) only [cond_t, cond_f, dt, df, w64, wu64, w8, ble_t, ble_f, ieqt, ieqf, inet, inef, Bool.not_true, Bool.not_false, Bool.true_and, Bool.and_true, Bool.false_and, Bool.and_false, Bool.not_not, dTrue, dFalse, Int.toNat_natCast, List.length_append, List.length_cons, List.length_nil, meet_self]
          rfl
        · have : p ≤ 0 := Classical.byContradiction fun g => h2 (by rw [eq_false h3, eq_false g])
          simp (disch := first | omega | (simp only [List.length_append, List.length_cons, List.length_nil, List.length_set, List.length_take, List.length_drop, List.length_replicate]; omega) | fail) only [cond_t, cond_f, dt, df, w64, wu64, w8, ble_t, ble_f, ieqt, ieqf, inet, inef, Bool.not_true, Bool.not_false, Bool.true_and, Bool.and_true, Bool.false_and, Bool.and_false, Bool.not_not, dTrue, dFalse, Int.toNat_natCast, List.length_append, List.length_cons, List.length_nil, meet_self]
          rfl
      rw [if_pos h2, e]
      simp (disch := first | omega | (simp only [List.length_append, List.length_cons, List.length_nil, List.length_set, List.length_take, List.length_drop, List.length_replicate]; omega) | fail) only [cond_t, cond_f, dt, df, w64, wu64, w8, ble_t, ble_f, ieqt, ieqf, inet, inef, Bool.not_true, Bool.not_false, Bool.true_and, Bool.and_true, Bool.false_and, Bool.and_false, Bool.not_not, dTrue, dFalse, Int.toNat_natCast, List.length_append, List.length_cons, List.length_nil, meet_self]
open Classical in
theorem rcheckL (l : List Ru) (p : Int) (hl : l.length ≤ 100000) (k1 : Int → Option Bool) (k2 : List Ru → Option Bool) : ∀ (n i : Nat), i ≤ l.length → l.length - i < n →
    ref13_Check_L0 n l p (i : Int) k1 k2 = if ∃ j, i ≤ j ∧ j < l.length ∧ badAt l p j then k1 9 else k2 l
  | 0, i, _, h => by omega
  | n + 1, i, h0, h1 => by
    rw [ref13_Check_L0]
    unfold ref13_Check_L0.body
    by_cases h : i < l.length
    · rw [if_iff (ex_step h)]
      have ih := rcheckL l p hl k1 k2 n (i + 1) (by omega) (by omega)
      have hx : (decide (0 ≤ (i : Int)) && decide ((i : Int) < (l.length : Int))) = true := by simp; omega
      rw [cond_pos (dt (by omega)), hx, cond_t, Int.toNat_natCast, cond_t]
      rw [w64 (n := (i : Int) + 1) (by omega) (by omega), show (i : Int) + 1 = ((i + 1 : Nat) : Int) by omega, ih]
      by_cases hi : i = 0
      · subst hi
        by_cases hb : badAt l p 0
        · rw [if_pos (Or.inl hb)]
          unfold badAt rw_ at hb
          by_cases g1 : (l.getD 0 ((0 : Int), ((0 : Int), ((0 : Int), (false, ((0 : Int), ())))))).1 ≥ p
          · simp (disch := first | omega | (simp only [List.length_append, List.length_cons, List.length_nil, List.length_set, List.length_take, List.length_drop, List.length_replicate]; omega) | fail) only [cond_t, cond_f, dt, df, w64, wu64, w8, ble_t, ble_f, ieqt, ieqf, inet, inef, Bool.not_true, Bool.not_false, Bool.true_and, Bool.and_true, Bool.false_and, Bool.and_false, Bool.not_not, dTrue, dFalse, Int.toNat_natCast, List.length_append, List.length_cons, List.length_nil, meet_self]
          · simp (disch := first | omega | (simp only [List.length_append, List.length_cons, List.length_nil, List.length_set, List.length_take, List.length_drop, List.length_replicate]; omega) | fail) only [cond_t, cond_f, dt, df, w64, wu64, w8, ble_t, ble_f, ieqt, ieqf, inet, inef, Bool.not_true, Bool.not_false, Bool.true_and, Bool.and_true, Bool.false_and, Bool.and_false, Bool.not_not, dTrue, dFalse, Int.toNat_natCast, List.length_append, List.length_cons, List.length_nil, meet_self]
        · rw [if_iff (or_iff_right hb)]
          unfold badAt rw_ at hb
          simp (disch := first | omega | (simp only [List.length_append, List.length_cons, List.length_nil, List.length_set, List.length_take, List.length_drop, List.length_replicate]; omega) | fail) only [cond_t, cond_f, dt, df, w64, wu64, w8, ble_t, ble_f, ieqt, ieqf, inet, inef, Bool.not_true, Bool.not_false, Bool.true_and, Bool.and_true, Bool.false_and, Bool.and_false, Bool.not_not, dTrue, dFalse, Int.toNat_natCast, List.length_append, List.length_cons, List.length_nil, meet_self]
      · have e : ((i : Int) - 1).toNat = i - 1 := by omega
        by_cases hb : badAt l p i
        · rw [if_pos (Or.inl hb)]
          unfold badAt rw_ at hb
          by_cases g1 : (l.getD i ((0 : Int), ((0 : Int), ((0 : Int), (false, ((0 : Int), ())))))).1 ≥ p
          · simp (disch := first | omega | (simp only [List.length_append, List.length_cons, List.length_nil, List.length_set, List.length_take, List.length_drop, List.length_replicate]; omega) | fail) only [cond_t, cond_f, dt, df, w64, wu64, w8, ble_t, ble_f, ieqt, ieqf, inet, inef, Bool.not_true, Bool.not_false, Bool.true_and, Bool.and_true, Bool.false_and, Bool.and_false, Bool.not_not, dTrue, dFalse, Int.toNat_natCast, List.length_append, List.length_cons, List.length_nil, meet_self]
          · simp (disch := first | omega | (simp only [List.length_append, List.length_cons, List.length_nil, List.length_set, List.length_take, List.length_drop, List.length_replicate]; omega) | fail) only [cond_t, cond_f, dt, df, w64, wu64, w8, ble_t, ble_f, ieqt, ieqf, inet, inef, Bool.not_true, Bool.not_false, Bool.true_and, Bool.and_true, Bool.false_and, Bool.and_false, Bool.not_not, dTrue, dFalse, Int.toNat_natCast, List.length_append, List.length_cons, List.length_nil, meet_self, e]
        · rw [if_iff (or_iff_right hb)]
          unfold badAt rw_ at hb
          simp (disch := first | omega | (simp only [List.length_append, List.length_cons, List.length_nil, List.length_set, List.length_take, List.length_drop, List.length_replicate]; omega) | fail) only [cond_t, cond_f, dt, df, w64, wu64, w8, ble_t, ble_f, ieqt, ieqf, inet, inef, Bool.not_true, Bool.not_false, Bool.true_and, Bool.and_true, Bool.false_and, Bool.and_false, Bool.not_not, dTrue, dFalse, Int.toNat_natCast, List.length_append, List.length_cons, List.length_nil, meet_self, e]
    · rw [if_neg (ex_none h)]
      simp (disch := first | omega | (simp only [List.length_append, List.length_cons, List.length_nil, List.length_set, List.length_take, List.length_drop, List.length_replicate]; omega) | fail) only [cond_t, cond_f, dt, df, w64, wu64, w8, ble_t, ble_f, ieqt, ieqf, inet, inef, Bool.not_true, Bool.not_false, Bool.true_and, Bool.and_true, Bool.false_and, Bool.and_false, Bool.not_not, dTrue, dFalse, Int.toNat_natCast, List.length_append, List.length_cons, List.length_nil, meet_self]
open Classical in
theorem rcheckL2 (l : List Ru) (hl : l.length ≤ 100000) (k1 : Int → Option Bool) (k2 : Option Bool) : ∀ (n i : Nat), 1 ≤ i → l.length - i < n →
    ref13_Check_L2 n l (i : Int) k1 k2 = if ∃ j, i ≤ j ∧ j < l.length ∧ twiceAt l j then k1 12 else k2
  | 0, i, _, h => by omega
  | n + 1, i, h0, h1 => by
    rw [ref13_Check_L2]
    unfold ref13_Check_L2.body
    by_cases h : i < l.length
    · rw [if_iff (ex_step h)]
      have ih := rcheckL2 l hl k1 k2 n (i + 1) (by omega) (by omega)
      have e : ((i : Int) - 1).toNat = i - 1 := by omega
      rw [cond_pos (dt (by omega)), cond_pos (by simp; omega), w64 (n := (i : Int) - 1) (by omega) (by omega), cond_pos (by simp; omega), Int.toNat_natCast, e]
      show cond_ (sameRow (rw_ l i).2 (rw_ l (i - 1)).2) (k1 12) (ref13_Check_L2 n l _ k1 k2) = _
      rw [w64 (n := (i : Int) + 1) (by omega) (by omega), show (i : Int) + 1 = ((i + 1 : Nat) : Int) by omega]
      by_cases hx : twiceAt l i
      · rw [if_pos (.inl hx), (sameRow_iff _ _).2 hx, cond_t]
      · have : sameRow (rw_ l i).2 (rw_ l (i - 1)).2 = false := by
          rw [← Bool.not_eq_true]; exact fun g => hx ((sameRow_iff _ _).1 g)
        rw [if_iff (or_iff_right hx), ← ih, this, cond_f]
    · rw [if_neg (ex_none h)]
      simp (disch := first | omega | (simp only [List.length_append, List.length_cons, List.length_nil, List.length_set, List.length_take, List.length_drop, List.length_replicate]; omega) | fail) only [cond_t, cond_f, dt, df, w64, wu64, w8, ble_t, ble_f, ieqt, ieqf, inet, inef, Bool.not_true, Bool.not_false, Bool.true_and, Bool.and_true, Bool.false_and, Bool.and_false, Bool.not_not, dTrue, dFalse, Int.toNat_natCast, List.length_append, List.length_cons, List.length_nil, meet_self]
theorem rcheck_ (l : List Ru) (hl : l.length ≤ 100000) (p : Int) (k : Int → Option Bool) : ref13_Check l p k = k (checkS l p) := by
  unfold ref13_Check ref13_Check.body checkS
  by_cases h1 : 4096 < l.length
  · rw [if_pos h1]
    simp (disch := first | omega | (simp only [List.length_append, List.length_cons, List.length_nil, List.length_set, List.length_take, List.length_drop, List.length_replicate]; omega) | fail) only [cond_t, cond_f, dt, df, w64, wu64, w8, ble_t, ble_f, ieqt, ieqf, inet, inef, Bool.not_true, Bool.not_false, Bool.true_and, Bool.and_true, Bool.false_and, Bool.and_false, Bool.not_not, dTrue, dFalse, Int.toNat_natCast, List.length_append, List.length_cons, List.length_nil, meet_self]
  · rw [if_neg h1, cond_neg (df (by omega))]
    by_cases h2 : (l.length = 0) = (p ≤ 0)
    · have e : (decide ((l.length : Int) > 0) == decide (p > 0)) = true := by
        by_cases h3 : l.length = 0
        · have : p ≤ 0 := h2 ▸ h3
          simp (disch := first | omega | (simp only [List.length_append, List.length_cons, List.length_nil, List.length_set, List.length_take, List.length_drop, List.length_replicate]; omega) | fail) only [cond_t, cond_f, dt, df, w64, wu64, w8, ble_t, ble_f, ieqt, ieqf, inet, inef, Bool.not_true, Bool.not_false, Bool.true_and, Bool.and_true, Bool.false_and, Bool.and_false, Bool.not_not, dTrue, dFalse, Int.toNat_natCast, List.length_append, List.length_cons, List.length_nil, meet_self, beq_self_eq_true]
        · have : ¬ p ≤ 0 := fun g => h3 (h2.symm ▸ g)
          simp (disch := first | omega | (simp only [List.length_append, List.length_cons, List.length_nil, List.length_set, List.length_take, List.length_drop, List.length_replicate]; omega) | fail) only [cond_t, cond_f, dt, df, w64, wu64, w8, ble_t, ble_f, ieqt, ieqf, inet, inef, Bool.not_true, Bool.not_false, Bool.true_and, Bool.and_true, Bool.false_and, Bool.and_false, Bool.not_not, dTrue, dFalse, Int.toNat_natCast, List.length_append, List.length_cons, List.length_nil, meet_self, beq_self_eq_true]
      rw [if_neg (fun g => g h2), e]
      rw [cond_neg (by rfl)]
      refine (rcheckL l p hl _ _ ROUNDS 0 (by omega) (by unfold ROUNDS; omega)).trans ?_
      split
      · rfl
      · refine (rcheckL2 l hl _ _ ROUNDS 1 (by omega) (by unfold ROUNDS; omega)).trans ?_
        split <;> rfl
    · have e : (decide ((l.length : Int) > 0) == decide (p > 0)) = false := by
        by_cases h3 : l.length = 0
        · have : ¬ p ≤ 0 := fun g => h2 (by rw [eq_true h3, eq_true g])
          simp (disch := first | omega | (simp only [List.length_append, List.length_cons, List.length_nil, List.length_set, List.length_take, List.length_drop, List.length_replicate]; omega) | fail) only [cond_t, cond_f, dt, df, w64, wu64, w8, ble_t, ble_f, ieqt, ieqf, inet, inef, Bool.not_true, Bool.not_false, Bool.true_and, Bool.and_true, Bool.false_and, Bool.and_false, Bool.not_not, dTrue, dFalse, Int.toNat_natCast, List.length_append, List.length_cons, List.length_nil, meet_self]
          rfl
        · have : p ≤ 0 := Classical.byContradiction fun g => h2 (by rw [eq_false h3, eq_false g])
          simp (disch := first | omega | (simp only [List.length_append, List.length_cons, List.length_nil, List.length_set, List.length_take, List.length_drop, List.length_replicate]; omega) | fail) only [cond_t, cond_f, dt, df, w64, wu64, w8, ble_t, ble_f, ieqt, ieqf, inet, inef, Bool.not_true, Bool.not_false, Bool.true_and, Bool.and_true, Bool.false_and, Bool.and_false, Bool.not_not, dTrue, dFalse, Int.toNat_natCast, List.length_append, List.length_cons, List.length_nil, meet_self]
          rfl
      rw [if_pos h2, e]
      simp (disch := first | omega | (simp only [List.length_append, List.length_cons, List.length_nil, List.length_set, List.length_take, List.length_drop, List.length_replicate]; omega) | fail) only [cond_t, cond_f, dt, df, w64, wu64, w8, ble_t, ble_f, ieqt, ieqf, inet, inef, Bool.not_true, Bool.not_false, Bool.true_and, Bool.and_true, Bool.false_and, Bool.and_false, Bool.not_not, dTrue, dFalse, Int.toNat_natCast, List.length_append, List.length_cons, List.length_nil, meet_self]
abbrev Ins := Int × Int × Int × Int × Int × Unit
abbrev FnT := Int × Int × Int × Int × Int × Int × Unit
abbrev Im := List Ins × List Int × List FnT × List Ru × Int × Unit
theorem getD_at {α : Type} {l : List α} {i : Nat} {d : α} (h : i < l.length) : l.getD i d = l[i] := by
  rw [List.getD_eq_getElem?_getD, List.getElem?_eq_getElem h]; rfl
/-- the first place at which p holds, from place i on; -1: none -/
def fi (p : FnT → Bool) : List FnT → Int → Int
  | [], _ => -1
  | x :: r, i => if p x = true then i else fi p r (i + 1)
theorem fi_any (p : FnT → Bool) : ∀ (l : List FnT) (i : Int), 0 ≤ i → decide (fi p l i ≥ 0) = l.any p
  | [], i, h => by rw [fi]; rfl
  | x :: r, i, h => by
    rw [fi, List.any_cons]
    cases hp : p x with
    | true => rw [if_pos rfl, dt h]; rfl
    | false => rw [if_neg (by decide), fi_any p r (i + 1) (by omega)]; rfl
theorem slices_IndexFunc_api_Fn_api_Fnv5_L0_ (l : List FnT) (t : Im) (p : FnT → Bool) (hl : l.length ≤ 100000) (hF : ∀ x ∈ l, ∀ k, image_oddfn1v1 x t k = k (p x) t) (k1 : Int → Im → Option Bool) (k2 : Im → Option Bool) : ∀ (n i : Nat), i ≤ l.length → l.length - i < n →
    slices_IndexFunc_api_Fn_api_Fnv5_L0 n l (l.length : Int) (i : Int) t k1 k2 = if 0 ≤ fi p (l.drop i) i then k1 (fi p (l.drop i) i) t else k2 t
  | 0, i, _, h => by omega
  | n + 1, i, h0, h1 => by
    rw [slices_IndexFunc_api_Fn_api_Fnv5_L0]
    unfold slices_IndexFunc_api_Fn_api_Fnv5_L0.body
    by_cases h : i < l.length
    · rw [cond_pos (dt (by omega)), cond_pos (by rw [dt (by omega), dt (by omega)]; rfl), Int.toNat_natCast, getD_at h, hF _ (List.getElem_mem h), List.drop_eq_getElem_cons h, fi]
      cases hp : p l[i] with
      | true => rw [if_pos rfl, if_pos (by omega), cond_t]
      | false =>
        rw [cond_f]
        simp only [Bool.false_eq_true, if_false]
        rw [w64 (by omega) (by omega), show (i : Int) + 1 = ((i + 1 : Nat) : Int) by omega]
        exact slices_IndexFunc_api_Fn_api_Fnv5_L0_ l t p hl hF k1 k2 n (i + 1) (by omega) (by omega)
    · rw [cond_neg (df (by omega)), List.drop_eq_nil_of_le (by omega), fi, if_neg (by omega)]
theorem slices_IndexFunc_api_Fn_api_Fnv5_ (l : List FnT) (t : Im) (p : FnT → Bool) (hl : l.length ≤ 100000) (hF : ∀ x ∈ l, ∀ k, image_oddfn1v1 x t k = k (p x) t) (k : Int → Im → Option Bool) : slices_IndexFunc_api_Fn_api_Fnv5 l t k = k (if 0 ≤ fi p l 0 then fi p l 0 else -1) t := by
  unfold slices_IndexFunc_api_Fn_api_Fnv5 slices_IndexFunc_api_Fn_api_Fnv5.body
  have e := slices_IndexFunc_api_Fn_api_Fnv5_L0_ l t p hl hF (fun n t => k n t) (fun t => k (-1) t) ROUNDS 0 (by omega) (by unfold ROUNDS; omega)
  rw [List.drop_zero] at e
  refine e.trans ?_
  by_cases h : (0 : Int) ≤ fi p l 0
  · exact (if_pos h).trans (congrArg (fun z => k z t) (if_pos h).symm)
  · exact (if_neg h).trans (congrArg (fun z => k z t) (if_neg h).symm)
theorem slices_ContainsFunc_api_Fn_api_Fnv4_ (l : List FnT) (t : Im) (p : FnT → Bool) (hl : l.length ≤ 100000) (hF : ∀ x ∈ l, ∀ k, image_oddfn1v1 x t k = k (p x) t) (k : Bool → Im → Option Bool) : slices_ContainsFunc_api_Fn_api_Fnv4 l t k = k (l.any p) t := by
  unfold slices_ContainsFunc_api_Fn_api_Fnv4 slices_ContainsFunc_api_Fn_api_Fnv4.body
  rw [slices_IndexFunc_api_Fn_api_Fnv5_ l t p hl hF, ← fi_any p l 0 (by omega)]
  by_cases h : 0 ≤ fi p l 0
  · rw [if_pos h]
  · rw [if_neg h, df (by omega), df (by omega)]
theorem slices_IndexFunc_api_Fn_api_Fnv6_L0_ (l : List FnT) (t : Im) (p : FnT → Bool) (hl : l.length ≤ 100000) (hF : ∀ x ∈ l, ∀ k, image_Checkfn6fn1v1 x t k = k (p x) t) (k1 : Int → Im → Option Bool) (k2 : Im → Option Bool) : ∀ (n i : Nat), i ≤ l.length → l.length - i < n →
    slices_IndexFunc_api_Fn_api_Fnv6_L0 n l (l.length : Int) (i : Int) t k1 k2 = if 0 ≤ fi p (l.drop i) i then k1 (fi p (l.drop i) i) t else k2 t
  | 0, i, _, h => by omega
  | n + 1, i, h0, h1 => by
    rw [slices_IndexFunc_api_Fn_api_Fnv6_L0]
    unfold slices_IndexFunc_api_Fn_api_Fnv6_L0.body
    by_cases h : i < l.length
    · rw [cond_pos (dt (by omega)), cond_pos (by rw [dt (by omega), dt (by omega)]; rfl), Int.toNat_natCast, getD_at h, hF _ (List.getElem_mem h), List.drop_eq_getElem_cons h, fi]
      cases hp : p l[i] with
      | true => rw [if_pos rfl, if_pos (by omega), cond_t]
      | false =>
        rw [cond_f]
        simp only [Bool.false_eq_true, if_false]
        rw [w64 (by omega) (by omega), show (i : Int) + 1 = ((i + 1 : Nat) : Int) by omega]
        exact slices_IndexFunc_api_Fn_api_Fnv6_L0_ l t p hl hF k1 k2 n (i + 1) (by omega) (by omega)
    · rw [cond_neg (df (by omega)), List.drop_eq_nil_of_le (by omega), fi, if_neg (by omega)]
theorem slices_IndexFunc_api_Fn_api_Fnv6_ (l : List FnT) (t : Im) (p : FnT → Bool) (hl : l.length ≤ 100000) (hF : ∀ x ∈ l, ∀ k, image_Checkfn6fn1v1 x t k = k (p x) t) (k : Int → Im → Option Bool) : slices_IndexFunc_api_Fn_api_Fnv6 l t k = k (if 0 ≤ fi p l 0 then fi p l 0 else -1) t := by
  unfold slices_IndexFunc_api_Fn_api_Fnv6 slices_IndexFunc_api_Fn_api_Fnv6.body
  have e := slices_IndexFunc_api_Fn_api_Fnv6_L0_ l t p hl hF (fun n t => k n t) (fun t => k (-1) t) ROUNDS 0 (by omega) (by unfold ROUNDS; omega)
  rw [List.drop_zero] at e
  refine e.trans ?_
  by_cases h : (0 : Int) ≤ fi p l 0
  · exact (if_pos h).trans (congrArg (fun z => k z t) (if_pos h).symm)
  · exact (if_neg h).trans (congrArg (fun z => k z t) (if_neg h).symm)
theorem slices_ContainsFunc_api_Fn_api_Fnv5_ (l : List FnT) (t : Im) (p : FnT → Bool) (hl : l.length ≤ 100000) (hF : ∀ x ∈ l, ∀ k, image_Checkfn6fn1v1 x t k = k (p x) t) (k : Bool → Im → Option Bool) : slices_ContainsFunc_api_Fn_api_Fnv5 l t k = k (l.any p) t := by
  unfold slices_ContainsFunc_api_Fn_api_Fnv5 slices_ContainsFunc_api_Fn_api_Fnv5.body
  rw [slices_IndexFunc_api_Fn_api_Fnv6_ l t p hl hF, ← fi_any p l 0 (by omega)]
  by_cases h : 0 ≤ fi p l 0
  · rw [if_pos h]
  · rw [if_neg h, df (by omega), df (by omega)]
theorem slices_IndexFunc_api_Fn_api_Fnv7_L0_ (l : List FnT) (t : Int) (p : FnT → Bool) (hl : l.length ≤ 100000) (hF : ∀ x ∈ l, ∀ k, image_Fnfn1 x t k = k (p x) t) (k1 : Int → Int → Option Bool) (k2 : Int → Option Bool) : ∀ (n i : Nat), i ≤ l.length → l.length - i < n →
    slices_IndexFunc_api_Fn_api_Fnv7_L0 n l (l.length : Int) (i : Int) t k1 k2 = if 0 ≤ fi p (l.drop i) i then k1 (fi p (l.drop i) i) t else k2 t
  | 0, i, _, h => by omega
  | n + 1, i, h0, h1 => by
    rw [slices_IndexFunc_api_Fn_api_Fnv7_L0]
    unfold slices_IndexFunc_api_Fn_api_Fnv7_L0.body
    by_cases h : i < l.length
    · rw [cond_pos (dt (by omega)), cond_pos (by rw [dt (by omega), dt (by omega)]; rfl), Int.toNat_natCast, getD_at h, hF _ (List.getElem_mem h), List.drop_eq_getElem_cons h, fi]
      cases hp : p l[i] with
      | true => rw [if_pos rfl, if_pos (by omega), cond_t]
      | false =>
        rw [cond_f]
        simp only [Bool.false_eq_true, if_false]
        rw [w64 (by omega) (by omega), show (i : Int) + 1 = ((i + 1 : Nat) : Int) by omega]
        exact slices_IndexFunc_api_Fn_api_Fnv7_L0_ l t p hl hF k1 k2 n (i + 1) (by omega) (by omega)
    · rw [cond_neg (df (by omega)), List.drop_eq_nil_of_le (by omega), fi, if_neg (by omega)]
theorem slices_IndexFunc_api_Fn_api_Fnv7_ (l : List FnT) (t : Int) (p : FnT → Bool) (hl : l.length ≤ 100000) (hF : ∀ x ∈ l, ∀ k, image_Fnfn1 x t k = k (p x) t) (k : Int → Int → Option Bool) : slices_IndexFunc_api_Fn_api_Fnv7 l t k = k (if 0 ≤ fi p l 0 then fi p l 0 else -1) t := by
  unfold slices_IndexFunc_api_Fn_api_Fnv7 slices_IndexFunc_api_Fn_api_Fnv7.body
  have e := slices_IndexFunc_api_Fn_api_Fnv7_L0_ l t p hl hF (fun n t => k n t) (fun t => k (-1) t) ROUNDS 0 (by omega) (by unfold ROUNDS; omega)
  rw [List.drop_zero] at e
  refine e.trans ?_
  by_cases h : (0 : Int) ≤ fi p l 0
  · exact (if_pos h).trans (congrArg (fun z => k z t) (if_pos h).symm)
  · exact (if_neg h).trans (congrArg (fun z => k z t) (if_neg h).symm)
def gp : List FnT → Int → Option Int
  | [], n => some n
  | f :: r, n => if f.2.2.1 ≠ n ∨ f.2.2.2.1 ≤ f.2.2.1 ∨ f.2.2.2.2.1 < f.2.2.2.1 ∨ f.2.2.2.2.2.1 < 0 then none else gp r f.2.2.2.2.1
theorem gp_ok : ∀ {l : List FnT} {n x : Int}, gp l n = some x → n ≤ x ∧ ∀ f ∈ l, n ≤ f.2.2.1 ∧ f.2.2.1 < f.2.2.2.1 ∧ f.2.2.2.1 ≤ f.2.2.2.2.1 ∧ f.2.2.2.2.1 ≤ x
  | [], n, x, h => by
    rw [gp] at h
    cases h
    exact ⟨Int.le_refl _, fun f hf => by cases hf⟩
  | f :: r, n, x, h => by
    rw [gp] at h
    split at h
    · cases h
    · rename_i hc
      obtain ⟨h1, h2⟩ := gp_ok h
      refine ⟨by omega, fun g hg => ?_⟩
      rcases List.mem_cons.1 hg with rfl | hg
      · exact ⟨by omega, by omega, by omega, h1⟩
      · have := h2 g hg
        exact ⟨by omega, by omega, by omega, by omega⟩
theorem gapsL (l : List FnT) (t : Im) (hl : l.length ≤ 100000) (k1 : Bool → Option Bool) (k2 : Int → Im → Option Bool) : ∀ (n i : Nat) (x : Int), i ≤ l.length → l.length - i < n →
    image_gapsv2_L0 n x l (l.length : Int) (i : Int) t k1 k2 = match gp (l.drop i) x with
      | none => k1 true
      | some y => k2 y t
  | 0, i, x, _, h => by omega
  | n + 1, i, x, h0, h1 => by
    rw [image_gapsv2_L0]
    unfold image_gapsv2_L0.body
    by_cases h : i < l.length
    · rw [cond_pos (dt (by omega)), cond_pos (by rw [dt (by omega), dt (by omega)]; rfl), Int.toNat_natCast, getD_at h, List.drop_eq_getElem_cons h, gp]
      by_cases c1 : l[i].2.2.1 = x
      · by_cases c2 : l[i].2.2.2.1 ≤ l[i].2.2.1
        · rw [if_pos (by omega)]; simp (disch := first | omega | (simp only [List.length_append, List.length_cons, List.length_nil, List.length_set, List.length_take, List.length_drop, List.length_replicate]; omega) | fail) only [cond_t, cond_f, dt, df, w64, wu64, w8, ble_t, ble_f, ieqt, ieqf, inet, inef, Bool.not_true, Bool.not_false, Bool.true_and, Bool.and_true, Bool.false_and, Bool.and_false, Bool.not_not, dTrue, dFalse, Int.toNat_natCast, List.length_append, List.length_cons, List.length_nil, meet_self]
        · by_cases c3 : l[i].2.2.2.2.1 < l[i].2.2.2.1
          · rw [if_pos (by omega)]; simp (disch := first | omega | (simp only [List.length_append, List.length_cons, List.length_nil, List.length_set, List.length_take, List.length_drop, List.length_replicate]; omega) | fail) only [cond_t, cond_f, dt, df, w64, wu64, w8, ble_t, ble_f, ieqt, ieqf, inet, inef, Bool.not_true, Bool.not_false, Bool.true_and, Bool.and_true, Bool.false_and, Bool.and_false, Bool.not_not, dTrue, dFalse, Int.toNat_natCast, List.length_append, List.length_cons, List.length_nil, meet_self]
          · by_cases c4 : l[i].2.2.2.2.2.1 < 0
            · rw [if_pos (by omega)]; simp (disch := first | omega | (simp only [List.length_append, List.length_cons, List.length_nil, List.length_set, List.length_take, List.length_drop, List.length_replicate]; omega) | fail) only [cond_t, cond_f, dt, df, w64, wu64, w8, ble_t, ble_f, ieqt, ieqf, inet, inef, Bool.not_true, Bool.not_false, Bool.true_and, Bool.and_true, Bool.false_and, Bool.and_false, Bool.not_not, dTrue, dFalse, Int.toNat_natCast, List.length_append, List.length_cons, List.length_nil, meet_self]
            · rw [if_neg (by omega)]
              simp (disch := first | omega | (simp only [List.length_append, List.length_cons, List.length_nil, List.length_set, List.length_take, List.length_drop, List.length_replicate]; omega) | fail) only [cond_t, cond_f, dt, df, w64, wu64, w8, ble_t, ble_f, ieqt, ieqf, inet, inef, Bool.not_true, Bool.not_false, Bool.true_and, Bool.and_true, Bool.false_and, Bool.and_false, Bool.not_not, dTrue, dFalse, Int.toNat_natCast, List.length_append, List.length_cons, List.length_nil, meet_self]
              exact gapsL l t hl k1 k2 n (i + 1) _ (by omega) (by omega)
      · rw [if_pos (.inl c1)]; simp (disch := first | omega | (simp only [List.length_append, List.length_cons, List.length_nil, List.length_set, List.length_take, List.length_drop, List.length_replicate]; omega) | fail) only [cond_t, cond_f, dt, df, w64, wu64, w8, ble_t, ble_f, ieqt, ieqf, inet, inef, Bool.not_true, Bool.not_false, Bool.true_and, Bool.and_true, Bool.false_and, Bool.and_false, Bool.not_not, dTrue, dFalse, Int.toNat_natCast, List.length_append, List.length_cons, List.length_nil, meet_self]
    · rw [cond_neg (df (by omega)), List.drop_eq_nil_of_le (by omega), gp]
theorem rgapsL (t : Im) (hl : t.2.2.1.length ≤ 100000) (k1 : Bool → Option Bool) (k2 : Int → Im → Option Bool) : ∀ (n i : Nat) (x : Int), i ≤ t.2.2.1.length → t.2.2.1.length - i < n →
    ref34_gaps_L0 n x (i : Int) t k1 k2 = match gp (t.2.2.1.drop i) x with
      | none => k1 true
      | some y => k2 y t
  | 0, i, x, _, h => by omega
  | n + 1, i, x, h0, h1 => by
    rw [ref34_gaps_L0]
    unfold ref34_gaps_L0.body
    by_cases h : i < t.2.2.1.length
    · rw [cond_pos (dt (by omega)), cond_pos (by rw [dt (by omega), dt (by omega)]; rfl), Int.toNat_natCast, getD_at h, List.drop_eq_getElem_cons h, gp]
      by_cases c1 : t.2.2.1[i].2.2.1 = x
      · by_cases c2 : t.2.2.1[i].2.2.2.1 ≤ t.2.2.1[i].2.2.1
        · rw [if_pos (by omega)]; simp (disch := first | omega | (simp only [List.length_append, List.length_cons, List.length_nil, List.length_set, List.length_take, List.length_drop, List.length_replicate]; omega) | fail) only [cond_t, cond_f, dt, df, w64, wu64, w8, ble_t, ble_f, ieqt, ieqf, inet, inef, Bool.not_true, Bool.not_false, Bool.true_and, Bool.and_true, Bool.false_and, Bool.and_false, Bool.not_not, dTrue, dFalse, Int.toNat_natCast, List.length_append, List.length_cons, List.length_nil, meet_self]
        · by_cases c3 : t.2.2.1[i].2.2.2.2.1 < t.2.2.1[i].2.2.2.1
          · rw [if_pos (by omega)]; simp (disch := first | omega | (simp only [List.length_append, List.length_cons, List.length_nil, List.length_set, List.length_take, List.length_drop, List.length_replicate]; omega) | fail) only [cond_t, cond_f, dt, df, w64, wu64, w8, ble_t, ble_f, ieqt, ieqf, inet, inef, Bool.not_true, Bool.not_false, Bool.true_and, Bool.and_true, Bool.false_and, Bool.and_false, Bool.not_not, dTrue, dFalse, Int.toNat_natCast, List.length_append, List.length_cons, List.length_nil, meet_self]
          · by_cases c4 : t.2.2.1[i].2.2.2.2.2.1 < 0
            · rw [if_pos (by omega)]; simp (disch := first | omega | (simp only [List.length_append, List.length_cons, List.length_nil, List.length_set, List.length_take, List.length_drop, List.length_replicate]; omega) | fail) only [cond_t, cond_f, dt, df, w64, wu64, w8, ble_t, ble_f, ieqt, ieqf, inet, inef, Bool.not_true, Bool.not_false, Bool.true_and, Bool.and_true, Bool.false_and, Bool.and_false, Bool.not_not, dTrue, dFalse, Int.toNat_natCast, List.length_append, List.length_cons, List.length_nil, meet_self]
            · rw [if_neg (by omega)]
              simp (disch := first | omega | (simp only [List.length_append, List.length_cons, List.length_nil, List.length_set, List.length_take, List.length_drop, List.length_replicate]; omega) | fail) only [cond_t, cond_f, dt, df, w64, wu64, w8, ble_t, ble_f, ieqt, ieqf, inet, inef, Bool.not_true, Bool.not_false, Bool.true_and, Bool.and_true, Bool.false_and, Bool.and_false, Bool.not_not, dTrue, dFalse, Int.toNat_natCast, List.length_append, List.length_cons, List.length_nil, meet_self]
              exact rgapsL t hl k1 k2 n (i + 1) _ (by omega) (by omega)
      · rw [if_pos (.inl c1)]; simp (disch := first | omega | (simp only [List.length_append, List.length_cons, List.length_nil, List.length_set, List.length_take, List.length_drop, List.length_replicate]; omega) | fail) only [cond_t, cond_f, dt, df, w64, wu64, w8, ble_t, ble_f, ieqt, ieqf, inet, inef, Bool.not_true, Bool.not_false, Bool.true_and, Bool.and_true, Bool.false_and, Bool.and_false, Bool.not_not, dTrue, dFalse, Int.toNat_natCast, List.length_append, List.length_cons, List.length_nil, meet_self]
    · rw [cond_neg (df (by omega)), List.drop_eq_nil_of_le (by omega), gp]
def gapB (t : Im) : Bool := match gp t.2.2.1 2 with
  | none => true
  | some y => y != (t.1.length : Int)
theorem gaps_ (t : Im) (hl : t.2.2.1.length ≤ 100000) (k : Bool → Option Bool) : image_gapsv2 t k = k (gapB t) := by
  unfold image_gapsv2 image_gapsv2.body gapB
  rw [show (0 : Int) = ((0 : Nat) : Int) from rfl, gapsL t.2.2.1 t hl _ _ ROUNDS 0 2 (by omega) (by unfold ROUNDS; omega), List.drop_zero]
  split <;> rfl
theorem rgaps_ (t : Im) (hl : t.2.2.1.length ≤ 100000) (k : Bool → Option Bool) : ref34_gaps t k = k (gapB t) := by
  unfold ref34_gaps ref34_gaps.body gapB
  rw [show (0 : Int) = ((0 : Nat) : Int) from rfl, rgapsL t hl _ _ ROUNDS 0 2 (by omega) (by unfold ROUNDS; omega), List.drop_zero]
  split <;> rfl
def fits (t : Im) (f : FnT) : Prop := 0 ≤ f.2.2.1 ∧ f.2.2.1 < f.2.2.2.1 ∧ f.2.2.2.1 ≤ (t.1.length : Int)
theorem gap_fits {t : Im} (h : gapB t = false) : ∀ f ∈ t.2.2.1, fits t f := by
  unfold gapB at h
  split at h
  · cases h
  · rename_i y hy
    have e : y = (t.1.length : Int) := by simpa using h
    intro f hf
    have := (gp_ok hy).2 f hf
    exact ⟨by omega, by omega, by omega⟩
def hd (t : Im) (f : FnT) : Bool := decide (f.2.2.2.1 - f.2.2.1 ≤ 2) && (((t.1.getD (f.2.2.2.1 - 1).toNat ((0 : Int), ((0 : Int), ((0 : Int), ((0 : Int), ((0 : Int), ())))))).1 == 26) && ((f.2.2.2.1 - f.2.2.1 == 1) || ((t.1.getD f.2.2.1.toNat ((0 : Int), ((0 : Int), ((0 : Int), ((0 : Int), ((0 : Int), ())))))).1 == 25)))
theorem rhead_ (t : Im) (f : FnT) (hl : t.1.length ≤ 100000) (hf : fits t f) (k : Bool → Option Bool) : ref34_head t f k = k (hd t f) := by
  obtain ⟨h1, h2, h3⟩ := hf
  unfold ref34_head ref34_head.body hd
  by_cases c1 : f.2.2.2.1 - f.2.2.1 ≤ 2
  · rw [dt c1]
    by_cases c2 : (t.1.getD (f.2.2.2.1 - 1).toNat ((0 : Int), ((0 : Int), ((0 : Int), ((0 : Int), ((0 : Int), ())))))).1 = 26
    · by_cases c3 : f.2.2.2.1 - f.2.2.1 = 1
      · rw [ieqt c2, ieqt c3]
        simp (disch := first | omega | (simp only [List.length_append, List.length_cons, List.length_nil, List.length_set, List.length_take, List.length_drop, List.length_replicate]; omega) | fail) only [cond_t, cond_f, dt, df, w64, wu64, w8, ble_t, ble_f, ieqt, ieqf, inet, inef, Bool.not_true, Bool.not_false, Bool.true_and, Bool.and_true, Bool.false_and, Bool.and_false, Bool.not_not, dTrue, dFalse, Int.toNat_natCast, List.length_append, List.length_cons, List.length_nil, meet_self, Bool.true_or]
      · rw [ieqt c2, ieqf c3]
        simp (disch := first | omega | (simp only [List.length_append, List.length_cons, List.length_nil, List.length_set, List.length_take, List.length_drop, List.length_replicate]; omega) | fail) only [cond_t, cond_f, dt, df, w64, wu64, w8, ble_t, ble_f, ieqt, ieqf, inet, inef, Bool.not_true, Bool.not_false, Bool.true_and, Bool.and_true, Bool.false_and, Bool.and_false, Bool.not_not, dTrue, dFalse, Int.toNat_natCast, List.length_append, List.length_cons, List.length_nil, meet_self, Bool.false_or]
    · rw [ieqf c2]
      simp (disch := first | omega | (simp only [List.length_append, List.length_cons, List.length_nil, List.length_set, List.length_take, List.length_drop, List.length_replicate]; omega) | fail) only [cond_t, cond_f, dt, df, w64, wu64, w8, ble_t, ble_f, ieqt, ieqf, inet, inef, Bool.not_true, Bool.not_false, Bool.true_and, Bool.and_true, Bool.false_and, Bool.and_false, Bool.not_not, dTrue, dFalse, Int.toNat_natCast, List.length_append, List.length_cons, List.length_nil, meet_self]
  · rw [df c1]
    simp (disch := first | omega | (simp only [List.length_append, List.length_cons, List.length_nil, List.length_set, List.length_take, List.length_drop, List.length_replicate]; omega) | fail) only [cond_t, cond_f, dt, df, w64, wu64, w8, ble_t, ble_f, ieqt, ieqf, inet, inef, Bool.not_true, Bool.not_false, Bool.true_and, Bool.and_true, Bool.false_and, Bool.and_false, Bool.not_not, dTrue, dFalse, Int.toNat_natCast, List.length_append, List.length_cons, List.length_nil, meet_self]
theorem sl_at {α : Type} {l : List α} {s n i : Nat} {d : α} (h : i < n) : List.getD (List.take n (List.drop s l)) i d = l.getD (s + i) d := by
  rw [List.getD_eq_getElem?_getD, List.getElem?_take, if_pos h, List.getElem?_drop, List.getD_eq_getElem?_getD]
theorem odd_ (t : Im) (f : FnT) (hl : t.1.length ≤ 100000) (hf : fits t f) (k : Bool → Im → Option Bool) : image_oddfn1v1 f t k = k (!(hd t f)) t := by
  obtain ⟨h1, h2, h3⟩ := hf
  unfold image_oddfn1v1 image_oddfn1v1.body hd
  obtain ⟨s, hs⟩ : ∃ s : Nat, f.2.2.1 = (s : Int) := ⟨f.2.2.1.toNat, by omega⟩
  obtain ⟨d, hd⟩ : ∃ d : Nat, f.2.2.2.1 = ((s + d : Nat) : Int) := ⟨(f.2.2.2.1 - f.2.2.1).toNat, by omega⟩
  rw [hs, hd, show (((s + d : Nat) : Int) - (s : Int)) = (d : Int) by omega, Int.toNat_natCast, Int.toNat_natCast, show (((s + d : Nat) : Int) - 1).toNat = s + (d - 1) by omega]
  have hlen : (List.take d (List.drop s t.1)).length = d := by rw [List.length_take, List.length_drop]; omega
  rw [cond_pos (by rw [dt (by omega), dt (by omega), dt (by omega)]; rfl)]
  rw [hlen]
  by_cases c2 : d = 2
  · subst c2
    rw [cond_pos (show (((2 : Nat) : Int) == 2) = true from rfl), cond_pos (by rfl), sl_at (by omega)]
    rw [dt (by omega), ieqf (by omega : ((2 : Nat) : Int) ≠ 1)]
    by_cases c3 : (t.1.getD (s + 0) ((0 : Int), ((0 : Int), ((0 : Int), ((0 : Int), ((0 : Int), ())))))).1 = 25
    · have e : (t.1.getD s ((0 : Int), ((0 : Int), ((0 : Int), ((0 : Int), ((0 : Int), ())))))).1 = 25 := c3
      rw [cond_pos (ieqt c3), cond_pos (by rfl), ieqt e]
      have hl2 : (List.take (2 - 1) (List.drop 1 (List.take 2 (List.drop s t.1)))).length = 1 := by rw [List.length_take, List.length_drop, hlen]; omega
      rw [hl2, cond_pos (by rfl), cond_pos (by rfl), sl_at (by omega), sl_at (by omega)]
      simp [bne]
    · have e : (t.1.getD s ((0 : Int), ((0 : Int), ((0 : Int), ((0 : Int), ((0 : Int), ())))))).1 ≠ 25 := c3
      rw [cond_neg (ieqf c3), ieqf e, cond_neg (by rfl)]
      simp
  · rw [cond_neg (ieqf (by omega))]
    by_cases c1 : d = 1
    · subst c1
      have e1 : (((1 : Nat) : Int) == 1) = true := rfl
      rw [cond_pos (by rfl), cond_pos (by rfl), sl_at (by omega), dt (by omega), e1, Bool.true_or, Bool.and_true, Bool.true_and]
      rfl
    · rw [cond_neg (by rw [inet (by omega)]; rfl), df (by omega)]
      simp
theorem rCheckL (t : Im) (hl : t.2.2.1.length ≤ 100000) (hc : t.1.length ≤ 100000) (hf : ∀ f ∈ t.2.2.1, fits t f) (k1 : Int → Option Bool) (k2 : Im → Option Bool) : ∀ (n i : Nat), i ≤ t.2.2.1.length → t.2.2.1.length - i < n →
    ref34_Check_L0 n (i : Int) t k1 k2 = if (t.2.2.1.drop i).any (fun f => !(hd t f)) then k1 8 else k2 t
  | 0, i, _, h => by omega
  | n + 1, i, h0, h1 => by
    rw [ref34_Check_L0]
    unfold ref34_Check_L0.body
    by_cases h : i < t.2.2.1.length
    · rw [cond_pos (dt (by omega)), cond_pos (by rw [dt (by omega), dt (by omega)]; rfl), Int.toNat_natCast, getD_at h, rhead_ t _ hc (hf _ (List.getElem_mem h)), List.drop_eq_getElem_cons h, List.any_cons]
      cases hp : hd t t.2.2.1[i] with
      | false => rw [cond_pos (by rfl), if_pos (by rfl)]
      | true =>
        rw [cond_neg (by rfl), w64 (by omega) (by omega), show (i : Int) + 1 = ((i + 1 : Nat) : Int) by omega, rCheckL t hl hc hf k1 k2 n (i + 1) (by omega) (by omega)]
        rfl
    · rw [cond_neg (df (by omega)), List.drop_eq_nil_of_le (by omega)]
      rfl
theorem rCheckL2 (t : Im) (hl : t.2.2.1.length ≤ 100000) (k1 : Int → Option Bool) (k2 : Option Bool) : ∀ (n i : Nat), i ≤ t.2.2.1.length → t.2.2.1.length - i < n →
    ref34_Check_L2 n (i : Int) t k1 k2 = if (t.2.2.1.drop i).any (fun f => f.2.2.1 == t.2.2.2.2.1) then k1 0 else k2
  | 0, i, _, h => by omega
  | n + 1, i, h0, h1 => by
    rw [ref34_Check_L2]
    unfold ref34_Check_L2.body
    by_cases h : i < t.2.2.1.length
    · rw [cond_pos (dt (by omega)), cond_pos (by rw [dt (by omega), dt (by omega)]; rfl), Int.toNat_natCast, getD_at h, List.drop_eq_getElem_cons h, List.any_cons]
      cases hp : t.2.2.1[i].2.2.1 == t.2.2.2.2.1 with
      | true => rw [cond_t, if_pos (by rfl)]
      | false =>
        rw [cond_f, w64 (by omega) (by omega), show (i : Int) + 1 = ((i + 1 : Nat) : Int) by omega, rCheckL2 t hl k1 k2 n (i + 1) (by omega) (by omega)]
        rfl
    · rw [cond_neg (df (by omega)), List.drop_eq_nil_of_le (by omega)]
      rfl
theorem rCheck0 (t : Im) (hl : t.2.2.1.length ≤ 100000) (hc : t.1.length ≤ 100000) (hf : ∀ f ∈ t.2.2.1, fits t f) (k1 : Int → Option Bool) (k2 : Im → Option Bool) :
    ref34_Check_L0 ROUNDS 0 t k1 k2 = if t.2.2.1.any (fun f => !(hd t f)) then k1 8 else k2 t := by
  have e := rCheckL t hl hc hf k1 k2 ROUNDS 0 (by omega) (by unfold ROUNDS; omega)
  rw [List.drop_zero] at e
  exact e
theorem rCheck20 (t : Im) (hl : t.2.2.1.length ≤ 100000) (k1 : Int → Option Bool) (k2 : Option Bool) :
    ref34_Check_L2 ROUNDS 0 t k1 k2 = if t.2.2.1.any (fun f => f.2.2.1 == t.2.2.2.2.1) then k1 0 else k2 := by
  have e := rCheckL2 t hl k1 k2 ROUNDS 0 (by omega) (by unfold ROUNDS; omega)
  rw [List.drop_zero] at e
  exact e
/-- how an image's code begins -/
def begB (t : Im) : Bool := (((t.1.getD 0 ((0 : Int), ((0 : Int), ((0 : Int), ((0 : Int), ((0 : Int), ())))))).1 == 27) && (((t.1.getD 0 ((0 : Int), ((0 : Int), ((0 : Int), ((0 : Int), ((0 : Int), ())))))).2.1 == 0) && (((t.1.getD 0 ((0 : Int), ((0 : Int), ((0 : Int), ((0 : Int), ((0 : Int), ())))))).2.2.1 == 0) && (((t.1.getD 0 ((0 : Int), ((0 : Int), ((0 : Int), ((0 : Int), ((0 : Int), ())))))).2.2.2.1 == 0) && (((t.1.getD 0 ((0 : Int), ((0 : Int), ((0 : Int), ((0 : Int), ((0 : Int), ())))))).2.2.2.2.1 == 0) && true)))))
def begB2 (t : Im) : Bool := (((t.1.getD 1 ((0 : Int), ((0 : Int), ((0 : Int), ((0 : Int), ((0 : Int), ())))))).1 == 28) && (((t.1.getD 1 ((0 : Int), ((0 : Int), ((0 : Int), ((0 : Int), ((0 : Int), ())))))).2.1 == 0) && (((t.1.getD 1 ((0 : Int), ((0 : Int), ((0 : Int), ((0 : Int), ((0 : Int), ())))))).2.2.1 == 0) && (((t.1.getD 1 ((0 : Int), ((0 : Int), ((0 : Int), ((0 : Int), ((0 : Int), ())))))).2.2.2.1 == 0) && (((t.1.getD 1 ((0 : Int), ((0 : Int), ((0 : Int), ((0 : Int), ((0 : Int), ())))))).2.2.2.2.1 == 0) && true)))))
def formB (t : Im) : Bool := decide ((t.1.length : Int) < 2) || (!(begB t) || !(begB2 t))
noncomputable def imS (t : Im) : Int := if formB t then 3 else if gapB t then 9 else if t.2.2.1.any (fun f => !(hd t f)) then 8 else if checkS t.2.2.2.1 (t.1.length : Int) ≠ 0 then checkS t.2.2.2.1 (t.1.length : Int) else if t.2.2.1.any (fun f => f.2.2.1 == t.2.2.2.2.1) then 0 else 15
structure FewI (t : Im) : Prop where
  a : t.1.length ≤ 65535
  b : t.2.1.length ≤ 65535
  c : t.2.2.1.length ≤ 100000
  d : t.2.2.2.1.length ≤ 100000
theorem rCheck_ (t : Im) (h : FewI t) (k : Int → Option Bool) : ref34_Check t k = k (imS t) := by
  obtain ⟨ha, hb, hc, hd'⟩ := h
  unfold ref34_Check ref34_Check.body imS formB
  rw [cond_pos (not_t (by omega)), cond_neg (df (by omega))]
  by_cases c1 : (t.1.length : Int) < 2
  · rw [cond_neg (not_f c1), dt c1]
    rfl
  · rw [cond_pos (not_t c1), df c1, Bool.false_or, cond_pos (by rw [dt (by omega)]; rfl)]
    show cond_ (!(!(begB t))) _ _ = _
    cases e1 : begB t with
    | false => rfl
    | true =>
      rw [cond_pos (by rfl), cond_pos (by rw [dt (by omega)]; rfl)]
      show cond_ (!(begB2 t)) _ _ = _
      cases e2 : begB2 t with
      | false => rfl
      | true =>
        rw [cond_neg (by rfl), rgaps_ t hc]
        cases e3 : gapB t with
        | true => rfl
        | false =>
          rw [cond_f, rCheck0 t hc (by omega) (gap_fits e3)]
          show _ = k (if (t.2.2.1.any (fun f => !(hd t f))) = true then 8 else if checkS t.2.2.2.1 (t.1.length : Int) ≠ 0 then checkS t.2.2.2.1 (t.1.length : Int) else if (t.2.2.1.any (fun f => f.2.2.1 == t.2.2.2.2.1)) = true then 0 else 15)
          cases e4 : t.2.2.1.any (fun f => !(hd t f)) with
          | true => rfl
          | false =>
            simp only [Bool.false_eq_true, if_false]
            rw [rcheck_ _ hd']
            by_cases c5 : checkS t.2.2.2.1 (t.1.length : Int) = 0
            · rw [cond_neg (inef c5), if_neg (fun g => g c5), rCheck20 t hc]
              split <;> rfl
            · rw [cond_pos (inet c5), if_pos c5]
theorem ck5_ (t : Im) (h : FewI t) (k : Int → Im → Option Bool) : image_Checkfn5v2 t k = k (checkS t.2.2.2.1 (t.1.length : Int)) t := by
  unfold image_Checkfn5v2 image_Checkfn5v2.body
  rw [runs_Checkv2_ _ h.d]
theorem ck1_ (t : Im) (h : FewI t) (n : Int) (k : Int → Im → Int → Option Bool) : image_lookfn1v10 t n k = k 0 t n := by
  obtain ⟨ha, hb, hc, hd'⟩ := h
  unfold image_lookfn1v10 image_lookfn1v10.body image_Checkfn1v2 image_Checkfn1v2.body
  rw [cond_pos (not_t (by omega)), df (by omega)]
  rfl
theorem ck2_ (t : Im) (h : FewI t) (n : Int) (k : Int → Im → Int → Option Bool) : image_lookfn1v11 t n k = k (if formB t then n else 0) t n := by
  obtain ⟨ha, hb, hc, hd'⟩ := h
  unfold image_lookfn1v11 image_lookfn1v11.body image_Checkfn2v2 image_Checkfn2v2.body formB
  by_cases c1 : (t.1.length : Int) < 2
  · rw [cond_neg (not_f c1), dt c1]
    rfl
  · rw [cond_pos (not_t c1), df c1, Bool.false_or, cond_pos (by rw [dt (by omega)]; rfl)]
    show cond_ (!(!(begB t))) _ _ = _
    cases e1 : begB t with
    | false => rfl
    | true =>
      rw [cond_pos (by rfl), cond_pos (by rw [dt (by omega)]; rfl)]
      show cond_ (!(begB2 t)) _ _ = _
      cases e2 : begB2 t <;> rfl
theorem ck3_ (t : Im) (h : FewI t) (n : Int) (k : Int → Im → Int → Option Bool) : image_lookfn1v12 t n k = k (if gapB t then n else 0) t n := by
  unfold image_lookfn1v12 image_lookfn1v12.body image_Checkfn3v2 image_Checkfn3v2.body
  rw [gaps_ t h.c]
  cases gapB t <;> rfl
theorem ck4_ (t : Im) (h : FewI t) (hf : ∀ f ∈ t.2.2.1, fits t f) (n : Int) (k : Int → Im → Int → Option Bool) : image_lookfn1v13 t n k = k (if t.2.2.1.any (fun f => !(hd t f)) then n else 0) t n := by
  unfold image_lookfn1v13 image_lookfn1v13.body image_Checkfn4v2 image_Checkfn4v2.body image_oddv2 image_oddv2.body
  dsimp only
  rw [slices_ContainsFunc_api_Fn_api_Fnv4_ t.2.2.1 t (fun f => !(hd t f)) h.c (fun x hx k => odd_ t x (Nat.le_trans h.a (by omega)) (hf x hx) k)]
  cases t.2.2.1.any (fun f => !(hd t f)) <;> rfl
theorem ck6_ (t : Im) (h : FewI t) (n : Int) (k : Int → Im → Int → Option Bool) : image_lookfn1v14 t n k = k (if t.2.2.1.any (fun f => f.2.2.1 == t.2.2.2.2.1) then 0 else n) t n := by
  unfold image_lookfn1v14 image_lookfn1v14.body image_Checkfn6v2 image_Checkfn6v2.body
  rw [slices_ContainsFunc_api_Fn_api_Fnv5_ t.2.2.1 t (fun f => f.2.2.1 == t.2.2.2.2.1) h.c (fun x hx k => rfl)]
  cases t.2.2.1.any (fun f => f.2.2.1 == t.2.2.2.2.1) <;> rfl
theorem image_lookv10_ (n : Int) (t : Im) (k : Im → Int → Option Bool) : image_lookv10 n t k = k t n := rfl
theorem image_lookv11_ (n : Int) (t : Im) (k : Im → Int → Option Bool) : image_lookv11 n t k = k t n := rfl
theorem image_lookv12_ (n : Int) (t : Im) (k : Im → Int → Option Bool) : image_lookv12 n t k = k t n := rfl
theorem image_lookv13_ (n : Int) (t : Im) (k : Im → Int → Option Bool) : image_lookv13 n t k = k t n := rfl
theorem image_lookv14_ (n : Int) (t : Im) (k : Im → Int → Option Bool) : image_lookv14 n t k = k t n := rfl
theorem Check_ (t : Im) (h : FewI t) (k : Int → Option Bool) : image_Checkv2 t k = k (imS t) := by
  unfold image_Checkv2 image_Checkv2.body
  rw [image_lookv10_, image_lookv11_, image_lookv12_, image_lookv13_, image_lookv14_]
  unfold image_allv2 image_allv2.body imS
  obtain ⟨R, hR, hR2⟩ := rounds_
  obtain ⟨R, rfl⟩ : ∃ q, R = q + 7 := ⟨R - 7, by omega⟩
  rw [hR, image_allv2_L0]
  unfold image_allv2_L0.body
  dsimp only
  rw [cond_pos (by rfl), cond_pos (by rfl), ck1_ t h, cond_neg (by rfl), w64 (by omega) (by omega), image_allv2_L0]
  unfold image_allv2_L0.body
  dsimp only
  rw [cond_pos (by rfl), cond_neg (by rfl), cond_pos (by rfl), ck2_ t h]
  cases e1 : formB t with
  | true => rfl
  | false =>
    rw [if_neg (by simp), if_neg (by simp), cond_neg (by rfl), w64 (by omega) (by omega), image_allv2_L0]
    unfold image_allv2_L0.body
    dsimp only
    rw [cond_pos (by rfl), cond_neg (by rfl), cond_neg (by rfl), cond_pos (by rfl), ck3_ t h]
    cases e2 : gapB t with
    | true => rfl
    | false =>
      rw [if_neg (by simp), if_neg (by simp), cond_neg (by rfl), w64 (by omega) (by omega), image_allv2_L0]
      unfold image_allv2_L0.body
      dsimp only
      rw [cond_pos (by rfl), cond_neg (by rfl), cond_neg (by rfl), cond_neg (by rfl), cond_pos (by rfl), ck4_ t h (gap_fits e2)]
      cases e3 : t.2.2.1.any (fun f => !(hd t f)) with
      | true => rfl
      | false =>
        rw [if_neg (by simp), if_neg (by simp), cond_neg (by rfl), w64 (by omega) (by omega), image_allv2_L0]
        unfold image_allv2_L0.body
        dsimp only
        rw [cond_pos (by rfl), cond_neg (by rfl), cond_neg (by rfl), cond_neg (by rfl), cond_neg (by rfl), cond_pos (by rfl), ck5_ t h]
        by_cases c5 : checkS t.2.2.2.1 (t.1.length : Int) = 0
        · rw [cond_neg (inef c5), if_neg (fun g => g c5), w64 (by omega) (by omega), image_allv2_L0]
          unfold image_allv2_L0.body
          dsimp only
          rw [cond_pos (by rfl), cond_neg (by rfl), cond_neg (by rfl), cond_neg (by rfl), cond_neg (by rfl), cond_neg (by rfl), cond_pos (by rfl), ck6_ t h]
          cases e4 : t.2.2.1.any (fun f => f.2.2.1 == t.2.2.2.2.1) with
          | true =>
            rw [if_pos rfl, cond_neg (by rfl), w64 (by omega) (by omega), image_allv2_L0]
            unfold image_allv2_L0.body
            dsimp only
            rw [cond_neg (by rfl)]
          | false => rfl
        · rw [cond_pos (inet c5), if_pos c5]
theorem at_ (t : Im) (h : FewI t) (p : Int) (k : Ro → Option Bool) : image_Atv1 t p k = ref34_At t p k := by
  unfold image_Atv1 image_Atv1.body ref34_At ref34_At.body
  rw [runs_Atv1_ _ _ h.d, rat_ _ _ h.d]
def inB (p : Int) (f : FnT) : Bool := if f.2.2.1 ≤ p then decide (p < f.2.2.2.2.1) else false
theorem fnf_ (f : FnT) (p : Int) (k : Bool → Int → Option Bool) : image_Fnfn1 f p k = k (inB p f) p := by
  unfold image_Fnfn1 image_Fnfn1.body inB
  by_cases c : f.2.2.1 ≤ p
  · rw [cond_pos (dt c), if_pos c]
  · rw [cond_neg (df c), if_neg c]
theorem rFnL (t : Im) (hl : t.2.2.1.length ≤ 100000) (p : Int) (k1 : Int → Option Bool) (k2 : Option Bool) : ∀ (n i : Nat), i ≤ t.2.2.1.length → t.2.2.1.length - i < n →
    ref34_Fn_L0 n p (i : Int) t k1 k2 = if 0 ≤ fi (inB p) (t.2.2.1.drop i) i then k1 (fi (inB p) (t.2.2.1.drop i) i) else k2
  | 0, i, _, h => by omega
  | n + 1, i, h0, h1 => by
    rw [ref34_Fn_L0]
    unfold ref34_Fn_L0.body
    by_cases h : i < t.2.2.1.length
    · rw [cond_pos (dt (by omega)), cond_pos (by rw [dt (by omega), dt (by omega)]; rfl), Int.toNat_natCast, getD_at h, List.drop_eq_getElem_cons h, fi]
      have ih := rFnL t hl p k1 k2 n (i + 1) (by omega) (by omega)
      unfold inB
      by_cases c1 : t.2.2.1[i].2.2.1 ≤ p
      · rw [cond_pos (dt c1), cond_pos (by rw [dt (by omega), dt (by omega)]; rfl), if_pos c1]
        by_cases c2 : p < t.2.2.1[i].2.2.2.2.1
        · rw [cond_pos (dt c2), dt c2, if_pos rfl, if_pos (by omega)]
        · rw [cond_neg (df c2), df c2]
          simp only [Bool.false_eq_true, if_false]
          rw [w64 (by omega) (by omega), show (i : Int) + 1 = ((i + 1 : Nat) : Int) by omega]
          exact ih
      · rw [cond_neg (df c1), if_neg c1]
        simp only [Bool.false_eq_true, if_false]
        rw [w64 (by omega) (by omega), show (i : Int) + 1 = ((i + 1 : Nat) : Int) by omega]
        exact ih
    · rw [cond_neg (df (by omega)), List.drop_eq_nil_of_le (by omega), fi, if_neg (by omega)]
theorem fn_ (t : Im) (h : FewI t) (p : Int) (k : Int → Option Bool) : image_Fnv1 t p k = k (if 0 ≤ fi (inB p) t.2.2.1 0 then fi (inB p) t.2.2.1 0 else -1) := by
  unfold image_Fnv1 image_Fnv1.body
  rw [slices_IndexFunc_api_Fn_api_Fnv7_ t.2.2.1 p (inB p) h.c (fun x _ k => fnf_ x p k)]
theorem rfn_ (t : Im) (h : FewI t) (p : Int) (k : Int → Option Bool) : ref34_Fn t p k = k (if 0 ≤ fi (inB p) t.2.2.1 0 then fi (inB p) t.2.2.1 0 else -1) := by
  unfold ref34_Fn ref34_Fn.body
  have e := rFnL t h.c p (fun n => k n) (k (-1)) ROUNDS 0 (by omega) (by have := h.c; unfold ROUNDS; omega)
  rw [List.drop_zero] at e
  refine e.trans ?_
  by_cases hh : (0 : Int) ≤ fi (inB p) t.2.2.1 0
  · exact (if_pos hh).trans (congrArg k (if_pos hh).symm)
  · exact (if_neg hh).trans (congrArg k (if_neg hh).symm)
def atV (t : Im) (p : Int) : Ro := if p < 0 then ((0 : Int), ((0 : Int), (false, ((0 : Int), ())))) else if p ≥ (t.1.length : Int) then ((0 : Int), ((0 : Int), (false, ((0 : Int), ())))) else (atS t.2.2.2.1 p).1
theorem rat34_ (t : Im) (h : FewI t) (p : Int) (k : Ro → Option Bool) : ref34_At t p k = k (atV t p) := by
  unfold ref34_At ref34_At.body atV
  by_cases c1 : p < 0
  · rw [if_pos c1]
    exact cond_neg (not_f c1)
  · rw [if_neg c1, cond_pos (not_t c1)]
    by_cases c2 : p ≥ (t.1.length : Int)
    · rw [if_pos c2]
      exact cond_pos (dt c2)
    · rw [if_neg c2, cond_neg (df c2), rat_ _ _ h.d]
theorem few_ (t : Im) (k : Bool → Option Bool) (h1 : FewI t → k true = some true) (h2 : k false = some true) : ref34_Few t k = some true := by
  unfold ref34_Few ref34_Few.body
  by_cases c1 : (t.1.length : Int) ≤ 900 <;> by_cases c2 : (t.2.1.length : Int) ≤ 400 <;> by_cases c3 : (t.2.2.1.length : Int) ≤ 60 <;> by_cases c4 : (t.2.2.2.1.length : Int) ≤ 900 <;> simp (disch := first | omega | (simp only [List.length_append, List.length_cons, List.length_nil, List.length_set, List.length_take, List.length_drop, List.length_replicate]; omega) | fail) only [cond_t, cond_f, dt, df, w64, wu64, w8, ble_t, ble_f, ieqt, ieqf, inet, inef, Bool.not_true, Bool.not_false, Bool.true_and, Bool.and_true, Bool.false_and, Bool.and_false, Bool.not_not, dTrue, dFalse, Int.toNat_natCast, List.length_append, List.length_cons, List.length_nil, meet_self] <;> first | exact h2 | exact h1 ⟨by omega, by omega, by omega, by omega⟩
theorem kn (k : Bool → Option Bool) : law34_known k = k true := by kernel_rfl
theorem holds (t : Im) (p : Int) (h0 : okD Ty14 t) (h1 : okD (.int .i64) p) : law34_ImageChecks t p (fun y => some y) = some true := by
  have kf : law34_known (fun b => some b) = some true := kn (fun b => some b)
  unfold law34_ImageChecks law34_ImageChecks.body
  refine few_ t _ (fun hF => ?_) ((cond_pos (by rfl)).trans kf)
  refine (cond_neg (by rfl)).trans ?_
  rw [Check_ t hF, rCheck_ t hF]
  refine (cond_pos (ieqt rfl)).trans ?_
  rw [at_ t hF, rat34_ t hF, rat34_ t hF]
  refine (cond_pos (by simp)).trans ?_
  rw [fn_ t hF, rfn_ t hF]
  exact (cond_pos (ieqt rfl)).trans kf

end Go.Proofs.YtnkpadpfpjeahaaGreat.imageChecks
