/- What the plain functions answer: the law, without program or memory. -/
import Derived.Test.YtbedajhajmkapaaMG
import Derived.IntWalk
import Derived.Laws.Strings
namespace Go.Proofs.Ytbedajhajmkapaa.dataChecks
open Go.AX Go.Proofs.Ytbedajhajmkapaa.g
set_option linter.unusedVariables false
set_option linter.unusedSimpArgs false
theorem cond_ite (b : Bool) (x y : Option Bool) : cond_ b x y = if b = true then x else y := by cases b <;> rfl
@[simp] theorem cond_t (x y : Option Bool) : cond_ true x y = x := (cond_ite true x y).trans (if_pos rfl)
@[simp] theorem cond_f (x y : Option Bool) : cond_ false x y = y := (cond_ite false x y).trans (if_neg (by decide))
theorem cond_pos {b : Bool} {x y : Option Bool} (h : b = true) : cond_ b x y = x := by rw [h]; rfl
theorem cond_neg {b : Bool} {x y : Option Bool} (h : b = false) : cond_ b x y = y := by rw [h]; rfl
@[simp] theorem meet_self (x : Option Bool) : meet x x = x := by
  cases x with
  | none => rfl
  | some a => simp [meet]
theorem w64 {n : Int} (h1 : -9223372036854775808 ≤ n) (h2 : n ≤ 9223372036854775807) : IntKind.wrap .i64 n = n := IntWalk.i64_in n ⟨h1, h2⟩
theorem w8 {n : Int} (h1 : 0 ≤ n) (h2 : n ≤ 255) : IntKind.wrap .u8 n = n := IntWalk.u8_in n ⟨h1, h2⟩
theorem wu64 {n : Int} (h1 : 0 ≤ n) (h2 : n ≤ 18446744073709551615) : IntKind.wrap .u64 n = n := IntWalk.u64_in n ⟨h1, h2⟩
theorem ble_t {a b : Nat} (h : a ≤ b) : Nat.ble a b = true := by rw [Nat.ble_eq]; exact h
theorem ok64 {n : Int} (h : okD (.int .i64) n) : -9223372036854775808 ≤ n ∧ n ≤ 9223372036854775807 := by
  have := okD_int.1 h
  simpa [Lit.wf, IntKind.min, IntKind.max, IntKind.bits, IntKind.signed, i_] using this
theorem not_t {p : Prop} [Decidable p] (h : ¬p) : (!decide p) = true := by simp [h]
theorem not_f {p : Prop} [Decidable p] (h : p) : (!decide p) = false := by simp [h]
theorem cond_congr {b c : Bool} (h : b = c) (x y : Option Bool) : cond_ b x y = cond_ c x y := by rw [h]
attribute [local congr] cond_congr
theorem dt {p : Prop} [Decidable p] (h : p) : decide p = true := decide_eq_true h
theorem df {p : Prop} [Decidable p] (h : ¬p) : decide p = false := decide_eq_false h
theorem ieqt {a b : Int} (h : a = b) : (a == b) = true := by simp [h]
theorem ieqf {a b : Int} (h : a ≠ b) : (a == b) = false := by simp [h]
theorem inet {a b : Int} (h : a ≠ b) : (a != b) = true := by simp [h]
theorem inef {a b : Int} (h : a = b) : (a != b) = false := by simp [h]
theorem ble_f {a b : Nat} (h : b < a) : Nat.ble a b = false := by
  cases hb : Nat.ble a b with
  | false => rfl
  | true => rw [Nat.ble_eq] at hb; omega
theorem rounds_ : ∃ R, ROUNDS = R ∧ 1000000000 ≤ R := ⟨ROUNDS, rfl, by unfold ROUNDS; omega⟩
theorem dTrue {i : Decidable True} : decide True = true := dt trivial
theorem dFalse {i : Decidable False} : decide False = false := df fun h => h
theorem if_iff {α : Type} {p q : Prop} [Decidable p] [Decidable q] (h : p ↔ q) (a b : α) : (if p then a else b) = (if q then a else b) := by
  by_cases hp : p
  · rw [if_pos hp, if_pos (h.1 hp)]
  · rw [if_neg hp, if_neg (fun g => hp (h.2 g))]
abbrev Rl := Int × Int × Bool × Unit
abbrev Dt := Int × List Int × List Rl × Unit
abbrev Sy := ByteArray × Bool × Int × Int × Int × Unit
theorem few_ (d : Dt) (k : Bool → Option Bool) : ref15_Few d k = k (decide (d.2.1.length ≤ 100 ∧ d.2.2.1.length ≤ 100)) := by
  unfold ref15_Few ref15_Few.body
  by_cases h1 : d.2.1.length ≤ 100
  · by_cases h2 : d.2.2.1.length ≤ 100
    · simp (disch := first | omega | (simp only [List.length_append, List.length_cons, List.length_nil, List.length_set, List.length_take, List.length_drop, List.length_replicate]; omega) | fail) only [cond_t, cond_f, dt, df, w64, wu64, w8, ble_t, ble_f, ieqt, ieqf, inet, inef, Bool.not_true, Bool.not_false, Bool.true_and, Bool.and_true, Bool.false_and, Bool.and_false, Bool.not_not, dTrue, dFalse, Int.toNat_natCast, List.length_append, List.length_cons, List.length_nil, meet_self]
    · simp (disch := first | omega | (simp only [List.length_append, List.length_cons, List.length_nil, List.length_set, List.length_take, List.length_drop, List.length_replicate]; omega) | fail) only [cond_t, cond_f, dt, df, w64, wu64, w8, ble_t, ble_f, ieqt, ieqf, inet, inef, Bool.not_true, Bool.not_false, Bool.true_and, Bool.and_true, Bool.false_and, Bool.and_false, Bool.not_not, dTrue, dFalse, Int.toNat_natCast, List.length_append, List.length_cons, List.length_nil, meet_self]
  · simp (disch := first | omega | (simp only [List.length_append, List.length_cons, List.length_nil, List.length_set, List.length_take, List.length_drop, List.length_replicate]; omega) | fail) only [cond_t, cond_f, dt, df, w64, wu64, w8, ble_t, ble_f, ieqt, ieqf, inet, inef, Bool.not_true, Bool.not_false, Bool.true_and, Bool.and_true, Bool.false_and, Bool.and_false, Bool.not_not, dTrue, dFalse, Int.toNat_natCast, List.length_append, List.length_cons, List.length_nil, meet_self]
def texts : List ByteArray := [(⟨#[110]⟩ : ByteArray), (⟨#[102, 48]⟩ : ByteArray), (⟨#[102, 48, 114]⟩ : ByteArray), (⟨#[102, 49]⟩ : ByteArray), (⟨#[102, 49, 114]⟩ : ByteArray), (⟨#[102, 50]⟩ : ByteArray), (⟨#[102, 50, 114]⟩ : ByteArray), (⟨#[102, 51]⟩ : ByteArray), (⟨#[102, 51, 114]⟩ : ByteArray)]
def textS (n : Int) : ByteArray := if 0 ≤ n ∧ n ≤ 8 then texts.getD n.toNat ⟨#[]⟩ else ⟨#[]⟩
theorem text_ (n : Int) (k : ByteArray → Option Bool) : sig_Text n k = k (textS n) := by
  unfold sig_Text sig_Text.body sig_texts sig_texts.body textS
  show cond_ (!decide (n < 0)) (cond_ (decide (n ≥ (texts.length : Int))) (k ⟨#[]⟩) (cond_ (decide (0 ≤ n) && decide (n < (texts.length : Int))) (k (texts.getD n.toNat ⟨#[]⟩)) none)) (k ⟨#[]⟩) = _
  have hl : texts.length = 9 := rfl
  by_cases h1 : n < 0
  · rw [if_neg (by omega)]
    simp (disch := first | omega | (simp only [List.length_append, List.length_cons, List.length_nil, List.length_set, List.length_take, List.length_drop, List.length_replicate]; omega) | fail) only [cond_t, cond_f, dt, df, w64, wu64, w8, ble_t, ble_f, ieqt, ieqf, inet, inef, Bool.not_true, Bool.not_false, Bool.true_and, Bool.and_true, Bool.false_and, Bool.and_false, Bool.not_not, dTrue, dFalse, Int.toNat_natCast, List.length_append, List.length_cons, List.length_nil, meet_self]
  · by_cases h2 : n > 8
    · rw [if_neg (by omega)]
      simp (disch := first | omega | (simp only [List.length_append, List.length_cons, List.length_nil, List.length_set, List.length_take, List.length_drop, List.length_replicate]; omega) | fail) only [cond_t, cond_f, dt, df, w64, wu64, w8, ble_t, ble_f, ieqt, ieqf, inet, inef, Bool.not_true, Bool.not_false, Bool.true_and, Bool.and_true, Bool.false_and, Bool.and_false, Bool.not_not, dTrue, dFalse, Int.toNat_natCast, List.length_append, List.length_cons, List.length_nil, meet_self]
    · rw [if_pos (by omega)]
      simp (disch := first | omega | (simp only [List.length_append, List.length_cons, List.length_nil, List.length_set, List.length_take, List.length_drop, List.length_replicate]; omega) | fail) only [cond_t, cond_f, dt, df, w64, wu64, w8, ble_t, ble_f, ieqt, ieqf, inet, inef, Bool.not_true, Bool.not_false, Bool.true_and, Bool.and_true, Bool.false_and, Bool.and_false, Bool.not_not, dTrue, dFalse, Int.toNat_natCast, List.length_append, List.length_cons, List.length_nil, meet_self]
theorem rtext_ {n : Int} (hn : -9223372036854775808 ≤ n ∧ n ≤ 9223372036854775807) (k : ByteArray → Option Bool) : ref05_Text n k = k (textS n) := by
  by_cases h1 : 0 ≤ n ∧ n ≤ 8
  · have : n = 0 ∨ n = 1 ∨ n = 2 ∨ n = 3 ∨ n = 4 ∨ n = 5 ∨ n = 6 ∨ n = 7 ∨ n = 8 := by omega
    rcases this with rfl | rfl | rfl | rfl | rfl | rfl | rfl | rfl | rfl <;> (show _ = _ ; kernel_rfl)
  · have e : textS n = ⟨#[]⟩ := by unfold textS; rw [if_neg h1]
    rw [e]
    unfold ref05_Text ref05_Text.body ref05_Class ref05_Class.body ref05_Is ref05_Is.body
    have hm : ¬ (0 ≤ IntKind.wrap .i64 (n - 1) ∧ IntKind.wrap .i64 (n - 1) ≤ 7) := by rw [IntKind.wrap_i64]; omega
    rw [cond_neg (ieqf (by omega))]
    by_cases h2 : 0 ≤ IntKind.wrap .i64 (n - 1)
    · simp (disch := first | omega | (simp only [List.length_append, List.length_cons, List.length_nil, List.length_set, List.length_take, List.length_drop, List.length_replicate]; omega) | fail) only [cond_t, cond_f, dt, df, w64, wu64, w8, ble_t, ble_f, ieqt, ieqf, inet, inef, Bool.not_true, Bool.not_false, Bool.true_and, Bool.and_true, Bool.false_and, Bool.and_false, Bool.not_not, dTrue, dFalse, Int.toNat_natCast, List.length_append, List.length_cons, List.length_nil, meet_self]
    · simp (disch := first | omega | (simp only [List.length_append, List.length_cons, List.length_nil, List.length_set, List.length_take, List.length_drop, List.length_replicate]; omega) | fail) only [cond_t, cond_f, dt, df, w64, wu64, w8, ble_t, ble_f, ieqt, ieqf, inet, inef, Bool.not_true, Bool.not_false, Bool.true_and, Bool.and_true, Bool.false_and, Bool.and_false, Bool.not_not, dTrue, dFalse, Int.toNat_natCast, List.length_append, List.length_cons, List.length_nil, meet_self]
theorem noName (s : ByteArray) : (ByteArray.toList s == ByteArray.toList (⟨#[]⟩ : ByteArray)) = decide (s.toList = []) := by
  have : ByteArray.toList (⟨#[]⟩ : ByteArray) = [] := by kernel_rfl
  rw [this]
  by_cases h : s.toList = []
  · rw [h]; rfl
  · rw [df h, beq_eq_false_iff_ne]; exact h
theorem textS_in {n : Int} (h : ¬ (textS n).toList = []) : 0 ≤ n ∧ n ≤ 8 := by
  refine Classical.byContradiction fun g => h ?_
  unfold textS
  rw [if_neg g]
  kernel_rfl
theorem ex_step {P : Nat → Prop} {i m : Nat} (h : i < m) : (∃ j, i ≤ j ∧ j < m ∧ P j) ↔ P i ∨ ∃ j, i + 1 ≤ j ∧ j < m ∧ P j := by
  constructor
  · rintro ⟨j, h1, h2, h3⟩
    by_cases e : i = j
    · subst e; exact .inl h3
    · exact .inr ⟨j, by omega, h2, h3⟩
  · rintro (h1 | ⟨j, h1, h2, h3⟩)
    · exact ⟨i, Nat.le_refl _, h, h1⟩
    · exact ⟨j, by omega, h2, h3⟩
theorem ex_none {P : Nat → Prop} {i m : Nat} (h : ¬ i < m) : ¬ ∃ j, i ≤ j ∧ j < m ∧ P j := by
  rintro ⟨j, h1, h2, _⟩
  omega
/-- words that are not 0 -/
def some0 (ws : List Int) (i : Nat) : Prop := ∃ j, i ≤ j ∧ j < ws.length ∧ ws.getD j 0 ≠ 0
open Classical in
theorem idxL (ws : List Int) (hl : ws.length ≤ 1000) (k1 : Int → Option Bool) (k2 : Option Bool) (r : Option Bool) (H : ∀ i : Nat, k1 (i : Int) = r) : ∀ (n i : Nat), i ≤ ws.length → ws.length - i < n → slices_IndexFunc_int64_int64_L0 n ws (ws.length : Int) (i : Int) k1 k2 = if some0 ws i then r else k2
  | 0, i, _, h => by omega
  | n + 1, i, h0, h1 => by
    rw [slices_IndexFunc_int64_int64_L0]
    unfold slices_IndexFunc_int64_int64_L0.body some0 data_Checkfn1 data_Checkfn1.body
    by_cases h : i < ws.length
    · rw [if_iff (ex_step h)]
      have ih := idxL ws hl k1 k2 r H n (i + 1) (by omega) (by omega)
      unfold some0 at ih
      by_cases c : ws.getD i 0 = 0
      · rw [if_iff (or_iff_right (fun g => g c))]
        simp (disch := first | omega | (simp only [List.length_append, List.length_cons, List.length_nil, List.length_set, List.length_take, List.length_drop, List.length_replicate]; omega) | fail) only [cond_t, cond_f, dt, df, w64, wu64, w8, ble_t, ble_f, ieqt, ieqf, inet, inef, Bool.not_true, Bool.not_false, Bool.true_and, Bool.and_true, Bool.false_and, Bool.and_false, Bool.not_not, dTrue, dFalse, Int.toNat_natCast, List.length_append, List.length_cons, List.length_nil, meet_self]
        exact ih
      · rw [if_pos (Or.inl c)]
        simp (disch := first | omega | (simp only [List.length_append, List.length_cons, List.length_nil, List.length_set, List.length_take, List.length_drop, List.length_replicate]; omega) | fail) only [cond_t, cond_f, dt, df, w64, wu64, w8, ble_t, ble_f, ieqt, ieqf, inet, inef, Bool.not_true, Bool.not_false, Bool.true_and, Bool.and_true, Bool.false_and, Bool.and_false, Bool.not_not, dTrue, dFalse, Int.toNat_natCast, List.length_append, List.length_cons, List.length_nil, meet_self, H]
    · rw [if_neg (ex_none h)]
      simp (disch := first | omega | (simp only [List.length_append, List.length_cons, List.length_nil, List.length_set, List.length_take, List.length_drop, List.length_replicate]; omega) | fail) only [cond_t, cond_f, dt, df, w64, wu64, w8, ble_t, ble_f, ieqt, ieqf, inet, inef, Bool.not_true, Bool.not_false, Bool.true_and, Bool.and_true, Bool.false_and, Bool.and_false, Bool.not_not, dTrue, dFalse, Int.toNat_natCast, List.length_append, List.length_cons, List.length_nil, meet_self]
open Classical in
theorem contains_ (ws : List Int) (hl : ws.length ≤ 1000) (k : Bool → Option Bool) : slices_ContainsFunc_int64_int64 ws k = k (decide (some0 ws 0)) := by
  unfold slices_ContainsFunc_int64_int64 slices_ContainsFunc_int64_int64.body slices_IndexFunc_int64_int64 slices_IndexFunc_int64_int64.body
  have := idxL ws hl (fun n18 => k (decide (n18 ≥ 0))) (k (decide ((-1 : Int) ≥ 0))) (k true) (fun i => by rw [dt (by omega)]) ROUNDS 0 (by omega) (by unfold ROUNDS; omega)
  refine this.trans ?_
  by_cases c : some0 ws 0
  · rw [if_pos c, dt c]
  · rw [if_neg c, df c]
    rfl
open Classical in
theorem rwordsL (kd : Int) (ws : List Int) (rs : List Rl) (l : List Sy) (hl : ws.length ≤ 1000) (k1 : Int → Option Bool) (k2 : List Sy → Dt → Option Bool) : ∀ (n i : Nat), i ≤ ws.length → ws.length - i < n → ref15_Check_L0 n l (i : Int) (kd, ws, rs, ()) k1 k2 = if kd ≠ 0 ∧ some0 ws i then k1 2 else k2 l (kd, ws, rs, ())
  | 0, i, _, h => by omega
  | n + 1, i, h0, h1 => by
    rw [ref15_Check_L0]
    unfold ref15_Check_L0.body
    by_cases h : i < ws.length
    · have ih := rwordsL kd ws rs l hl k1 k2 n (i + 1) (by omega) (by omega)
      have hs : some0 ws i ↔ ws.getD i 0 ≠ 0 ∨ some0 ws (i + 1) := ex_step h
      by_cases ck : kd = 0
      · rw [if_neg (fun g => g.1 ck)] at ih ⊢
        simp (disch := first | omega | (simp only [List.length_append, List.length_cons, List.length_nil, List.length_set, List.length_take, List.length_drop, List.length_replicate]; omega) | fail) only [cond_t, cond_f, dt, df, w64, wu64, w8, ble_t, ble_f, ieqt, ieqf, inet, inef, Bool.not_true, Bool.not_false, Bool.true_and, Bool.and_true, Bool.false_and, Bool.and_false, Bool.not_not, dTrue, dFalse, Int.toNat_natCast, List.length_append, List.length_cons, List.length_nil, meet_self]
        exact ih
      · by_cases c : ws.getD i 0 = 0
        · rw [if_iff (and_congr_right_iff.2 fun _ => hs.trans (or_iff_right (fun g => g c)))]
          simp (disch := first | omega | (simp only [List.length_append, List.length_cons, List.length_nil, List.length_set, List.length_take, List.length_drop, List.length_replicate]; omega) | fail) only [cond_t, cond_f, dt, df, w64, wu64, w8, ble_t, ble_f, ieqt, ieqf, inet, inef, Bool.not_true, Bool.not_false, Bool.true_and, Bool.and_true, Bool.false_and, Bool.and_false, Bool.not_not, dTrue, dFalse, Int.toNat_natCast, List.length_append, List.length_cons, List.length_nil, meet_self]
          exact ih
        · rw [if_pos ⟨ck, hs.2 (.inl c)⟩]
          simp (disch := first | omega | (simp only [List.length_append, List.length_cons, List.length_nil, List.length_set, List.length_take, List.length_drop, List.length_replicate]; omega) | fail) only [cond_t, cond_f, dt, df, w64, wu64, w8, ble_t, ble_f, ieqt, ieqf, inet, inef, Bool.not_true, Bool.not_false, Bool.true_and, Bool.and_true, Bool.false_and, Bool.and_false, Bool.not_not, dTrue, dFalse, Int.toNat_natCast, List.length_append, List.length_cons, List.length_nil, meet_self]
    · rw [if_neg (fun g => ex_none h g.2)]
      simp (disch := first | omega | (simp only [List.length_append, List.length_cons, List.length_nil, List.length_set, List.length_take, List.length_drop, List.length_replicate]; omega) | fail) only [cond_t, cond_f, dt, df, w64, wu64, w8, ble_t, ble_f, ieqt, ieqf, inet, inef, Bool.not_true, Bool.not_false, Bool.true_and, Bool.and_true, Bool.false_and, Bool.and_false, Bool.not_not, dTrue, dFalse, Int.toNat_natCast, List.length_append, List.length_cons, List.length_nil, meet_self]
/-- what is wrong with a reference -/
def rel1 (kd : Int) (ws : List Int) (rs : List Rl) (l : List Sy) (i : Nat) : Int :=
  if kd = 0 ∨ (rs.getD i ((0 : Int), ((0 : Int), (false, ())))).1 < 0 ∨ (rs.getD i ((0 : Int), ((0 : Int), (false, ())))).1 ≥ (ws.length : Int) ∨ (0 < i ∧ (rs.getD i ((0 : Int), ((0 : Int), (false, ())))).1 ≤ (rs.getD (i - 1) ((0 : Int), ((0 : Int), (false, ())))).1) ∨ (rs.getD i ((0 : Int), ((0 : Int), (false, ())))).2.1 < 0 ∨ (rs.getD i ((0 : Int), ((0 : Int), (false, ())))).2.1 ≥ (l.length : Int) then 11
  else if (l.getD (rs.getD i ((0 : Int), ((0 : Int), (false, ())))).2.1.toNat ((⟨#[]⟩ : ByteArray), (false, ((0 : Int), ((0 : Int), ((0 : Int), ())))))).2.2.1 ≠ 1 ∨ (l.getD (rs.getD i ((0 : Int), ((0 : Int), (false, ())))).2.1.toNat ((⟨#[]⟩ : ByteArray), (false, ((0 : Int), ((0 : Int), ((0 : Int), ())))))).2.2.2.1 ≠ kd - 1 then 8 else 0
def relS (kd : Int) (ws : List Int) (rs : List Rl) (l : List Sy) : Nat → Nat → Int
  | 0, _ => 0
  | m + 1, i => if rel1 kd ws rs l i = 0 then relS kd ws rs l m (i + 1) else rel1 kd ws rs l i
theorem r1_ (i : Int) (x : Rl) (d : Dt) (k : Bool → Dt → Option Bool) : data_rulesfn1 i x d k = k (d.1 == 0) d := by
  unfold data_rulesfn1 data_rulesfn1.body
  rfl
theorem r2_ (i : Int) (x : Rl) (d : Dt) (k : Bool → Dt → Option Bool) : data_rulesfn2 i x d k = k (decide (x.1 < 0 ∨ x.1 ≥ (d.2.1.length : Int))) d := by
  unfold data_rulesfn2 data_rulesfn2.body
  by_cases c : x.1 < 0
  · simp (disch := first | omega | (simp only [List.length_append, List.length_cons, List.length_nil, List.length_set, List.length_take, List.length_drop, List.length_replicate]; omega) | fail) only [cond_t, cond_f, dt, df, w64, wu64, w8, ble_t, ble_f, ieqt, ieqf, inet, inef, Bool.not_true, Bool.not_false, Bool.true_and, Bool.and_true, Bool.false_and, Bool.and_false, Bool.not_not, dTrue, dFalse, Int.toNat_natCast, List.length_append, List.length_cons, List.length_nil, meet_self]
  · by_cases c2 : x.1 ≥ (d.2.1.length : Int)
    · simp (disch := first | omega | (simp only [List.length_append, List.length_cons, List.length_nil, List.length_set, List.length_take, List.length_drop, List.length_replicate]; omega) | fail) only [cond_t, cond_f, dt, df, w64, wu64, w8, ble_t, ble_f, ieqt, ieqf, inet, inef, Bool.not_true, Bool.not_false, Bool.true_and, Bool.and_true, Bool.false_and, Bool.and_false, Bool.not_not, dTrue, dFalse, Int.toNat_natCast, List.length_append, List.length_cons, List.length_nil, meet_self]
    · simp (disch := first | omega | (simp only [List.length_append, List.length_cons, List.length_nil, List.length_set, List.length_take, List.length_drop, List.length_replicate]; omega) | fail) only [cond_t, cond_f, dt, df, w64, wu64, w8, ble_t, ble_f, ieqt, ieqf, inet, inef, Bool.not_true, Bool.not_false, Bool.true_and, Bool.and_true, Bool.false_and, Bool.and_false, Bool.not_not, dTrue, dFalse, Int.toNat_natCast, List.length_append, List.length_cons, List.length_nil, meet_self]
theorem r3_ (i : Nat) (x : Rl) (d : Dt) (hi : i < d.2.2.1.length) (hl : d.2.2.1.length ≤ 1000) (k : Bool → Dt → Option Bool) : data_rulesfn3 (i : Int) x d k = k (decide (0 < i ∧ x.1 ≤ (d.2.2.1.getD (i - 1) ((0 : Int), ((0 : Int), (false, ())))).1)) d := by
  unfold data_rulesfn3 data_rulesfn3.body
  have e : ((i : Int) - 1).toNat = i - 1 := by omega
  by_cases c : 0 < i
  · by_cases c2 : x.1 ≤ (d.2.2.1.getD (i - 1) ((0 : Int), ((0 : Int), (false, ())))).1
    · simp (disch := first | omega | (simp only [List.length_append, List.length_cons, List.length_nil, List.length_set, List.length_take, List.length_drop, List.length_replicate]; omega) | fail) only [cond_t, cond_f, dt, df, w64, wu64, w8, ble_t, ble_f, ieqt, ieqf, inet, inef, Bool.not_true, Bool.not_false, Bool.true_and, Bool.and_true, Bool.false_and, Bool.and_false, Bool.not_not, dTrue, dFalse, Int.toNat_natCast, List.length_append, List.length_cons, List.length_nil, meet_self, e]
    · simp (disch := first | omega | (simp only [List.length_append, List.length_cons, List.length_nil, List.length_set, List.length_take, List.length_drop, List.length_replicate]; omega) | fail) only [cond_t, cond_f, dt, df, w64, wu64, w8, ble_t, ble_f, ieqt, ieqf, inet, inef, Bool.not_true, Bool.not_false, Bool.true_and, Bool.and_true, Bool.false_and, Bool.and_false, Bool.not_not, dTrue, dFalse, Int.toNat_natCast, List.length_append, List.length_cons, List.length_nil, meet_self, e]
  · simp (disch := first | omega | (simp only [List.length_append, List.length_cons, List.length_nil, List.length_set, List.length_take, List.length_drop, List.length_replicate]; omega) | fail) only [cond_t, cond_f, dt, df, w64, wu64, w8, ble_t, ble_f, ieqt, ieqf, inet, inef, Bool.not_true, Bool.not_false, Bool.true_and, Bool.and_true, Bool.false_and, Bool.and_false, Bool.not_not, dTrue, dFalse, Int.toNat_natCast, List.length_append, List.length_cons, List.length_nil, meet_self]
theorem r4_ (i : Int) (x : Rl) (l : List Sy) (k : Bool → List Sy → Option Bool) : data_rulesfn4 i x l k = k (decide (x.2.1 < 0 ∨ x.2.1 ≥ (l.length : Int))) l := by
  unfold data_rulesfn4 data_rulesfn4.body
  by_cases c : x.2.1 < 0
  · simp (disch := first | omega | (simp only [List.length_append, List.length_cons, List.length_nil, List.length_set, List.length_take, List.length_drop, List.length_replicate]; omega) | fail) only [cond_t, cond_f, dt, df, w64, wu64, w8, ble_t, ble_f, ieqt, ieqf, inet, inef, Bool.not_true, Bool.not_false, Bool.true_and, Bool.and_true, Bool.false_and, Bool.and_false, Bool.not_not, dTrue, dFalse, Int.toNat_natCast, List.length_append, List.length_cons, List.length_nil, meet_self]
  · by_cases c2 : x.2.1 ≥ (l.length : Int)
    · simp (disch := first | omega | (simp only [List.length_append, List.length_cons, List.length_nil, List.length_set, List.length_take, List.length_drop, List.length_replicate]; omega) | fail) only [cond_t, cond_f, dt, df, w64, wu64, w8, ble_t, ble_f, ieqt, ieqf, inet, inef, Bool.not_true, Bool.not_false, Bool.true_and, Bool.and_true, Bool.false_and, Bool.and_false, Bool.not_not, dTrue, dFalse, Int.toNat_natCast, List.length_append, List.length_cons, List.length_nil, meet_self]
    · simp (disch := first | omega | (simp only [List.length_append, List.length_cons, List.length_nil, List.length_set, List.length_take, List.length_drop, List.length_replicate]; omega) | fail) only [cond_t, cond_f, dt, df, w64, wu64, w8, ble_t, ble_f, ieqt, ieqf, inet, inef, Bool.not_true, Bool.not_false, Bool.true_and, Bool.and_true, Bool.false_and, Bool.and_false, Bool.not_not, dTrue, dFalse, Int.toNat_natCast, List.length_append, List.length_cons, List.length_nil, meet_self]
theorem r5_ (i : Int) (x : Rl) (l : List Sy) (cl : Int) (h : 0 ≤ x.2.1 ∧ x.2.1 < (l.length : Int)) (k : Bool → List Sy → Int → Option Bool) : data_rulesfn5 i x l cl k = k (decide ((l.getD x.2.1.toNat ((⟨#[]⟩ : ByteArray), (false, ((0 : Int), ((0 : Int), ((0 : Int), ())))))).2.2.1 ≠ 1 ∨ (l.getD x.2.1.toNat ((⟨#[]⟩ : ByteArray), (false, ((0 : Int), ((0 : Int), ((0 : Int), ())))))).2.2.2.1 ≠ cl)) l cl := by
  unfold data_rulesfn5 data_rulesfn5.body
  generalize l.getD x.2.1.toNat ((⟨#[]⟩ : ByteArray), (false, ((0 : Int), ((0 : Int), ((0 : Int), ()))))) = y
  by_cases c : y.2.2.1 = 1
  · by_cases c2 : y.2.2.2.1 = cl
    · simp (disch := first | omega | (simp only [List.length_append, List.length_cons, List.length_nil, List.length_set, List.length_take, List.length_drop, List.length_replicate]; omega) | fail) only [cond_t, cond_f, dt, df, w64, wu64, w8, ble_t, ble_f, ieqt, ieqf, inet, inef, Bool.not_true, Bool.not_false, Bool.true_and, Bool.and_true, Bool.false_and, Bool.and_false, Bool.not_not, dTrue, dFalse, Int.toNat_natCast, List.length_append, List.length_cons, List.length_nil, meet_self]
    · simp (disch := first | omega | (simp only [List.length_append, List.length_cons, List.length_nil, List.length_set, List.length_take, List.length_drop, List.length_replicate]; omega) | fail) only [cond_t, cond_f, dt, df, w64, wu64, w8, ble_t, ble_f, ieqt, ieqf, inet, inef, Bool.not_true, Bool.not_false, Bool.true_and, Bool.and_true, Bool.false_and, Bool.and_false, Bool.not_not, dTrue, dFalse, Int.toNat_natCast, List.length_append, List.length_cons, List.length_nil, meet_self]
  · simp (disch := first | omega | (simp only [List.length_append, List.length_cons, List.length_nil, List.length_set, List.length_take, List.length_drop, List.length_replicate]; omega) | fail) only [cond_t, cond_f, dt, df, w64, wu64, w8, ble_t, ble_f, ieqt, ieqf, inet, inef, Bool.not_true, Bool.not_false, Bool.true_and, Bool.and_true, Bool.false_and, Bool.and_false, Bool.not_not, dTrue, dFalse, Int.toNat_natCast, List.length_append, List.length_cons, List.length_nil, meet_self]
theorem relIn (kd : Int) (ws : List Int) (rs : List Rl) (l : List Sy) (hr : rs.length ≤ 1000) (hk : 0 ≤ kd ∧ kd ≤ 8) (cl : Int) (hc : 1 ≤ kd → cl = kd - 1) (q : List Rl) (p : Int) (i : Nat) (hi : i < rs.length) (k1 : Int → Option Bool) (k2 : List Rl → Int → Int → Int → Int → Int → Int → Int → Dt → List Sy → Int → Option Bool) :
    data_Check_L1_L3 ROUNDS (i : Int) q p (i : Int) 5 0 11 11 11 11 8 (kd, ws, rs, ()) l cl (rs.getD i ((0 : Int), ((0 : Int), (false, ())))) k1 k2 = if rel1 kd ws rs l i = 0 then k2 q p (i : Int) 11 11 11 11 8 (kd, ws, rs, ()) l cl else k1 (rel1 kd ws rs l i) := by
  obtain ⟨R, hR⟩ : ∃ R, ROUNDS = R + 1 + 1 + 1 + 1 + 1 + 1 := ⟨1180591620717411303418, rfl⟩
  rw [hR]
  have h3 := fun k => r3_ i (rs.getD i ((0 : Int), ((0 : Int), (false, ())))) (kd, ws, rs, ()) hi hr k
  have hv : rel1 kd ws rs l i = if kd = 0 ∨ (rs.getD i ((0 : Int), ((0 : Int), (false, ())))).1 < 0 ∨ (rs.getD i ((0 : Int), ((0 : Int), (false, ())))).1 ≥ (ws.length : Int) ∨ (0 < i ∧ (rs.getD i ((0 : Int), ((0 : Int), (false, ())))).1 ≤ (rs.getD (i - 1) ((0 : Int), ((0 : Int), (false, ())))).1) ∨ (rs.getD i ((0 : Int), ((0 : Int), (false, ())))).2.1 < 0 ∨ (rs.getD i ((0 : Int), ((0 : Int), (false, ())))).2.1 ≥ (l.length : Int) then 11 else if (l.getD (rs.getD i ((0 : Int), ((0 : Int), (false, ())))).2.1.toNat ((⟨#[]⟩ : ByteArray), (false, ((0 : Int), ((0 : Int), ((0 : Int), ())))))).2.2.1 ≠ 1 ∨ (l.getD (rs.getD i ((0 : Int), ((0 : Int), (false, ())))).2.1.toNat ((⟨#[]⟩ : ByteArray), (false, ((0 : Int), ((0 : Int), ((0 : Int), ())))))).2.2.2.1 ≠ kd - 1 then 8 else 0 := rfl
  generalize rel1 kd ws rs l i = v at hv ⊢
  generalize rs.getD i ((0 : Int), ((0 : Int), (false, ()))) = x at hv h3 ⊢
  rw [data_Check_L1_L3]
  unfold data_Check_L1_L3.body
  simp (disch := first | omega | (simp only [List.length_append, List.length_cons, List.length_nil, List.length_set, List.length_take, List.length_drop, List.length_replicate]; omega) | fail) only [cond_t, cond_f, dt, df, w64, wu64, w8, ble_t, ble_f, ieqt, ieqf, inet, inef, Bool.not_true, Bool.not_false, Bool.true_and, Bool.and_true, Bool.false_and, Bool.and_false, Bool.not_not, dTrue, dFalse, Int.toNat_natCast, List.length_append, List.length_cons, List.length_nil, meet_self]
  rw [r1_]
  by_cases c1 : kd = 0
  · rw [if_pos (Or.inl c1)] at hv
    rw [hv, if_neg (by decide), ieqt c1, cond_t]
  · rw [ieqf c1, cond_f, data_Check_L1_L3]
    unfold data_Check_L1_L3.body
    simp (disch := first | omega | (simp only [List.length_append, List.length_cons, List.length_nil, List.length_set, List.length_take, List.length_drop, List.length_replicate]; omega) | fail) only [cond_t, cond_f, dt, df, w64, wu64, w8, ble_t, ble_f, ieqt, ieqf, inet, inef, Bool.not_true, Bool.not_false, Bool.true_and, Bool.and_true, Bool.false_and, Bool.and_false, Bool.not_not, dTrue, dFalse, Int.toNat_natCast, List.length_append, List.length_cons, List.length_nil, meet_self]
    rw [r2_]
    by_cases c2 : x.1 < 0 ∨ x.1 ≥ (ws.length : Int)
    · rw [if_pos (by omega)] at hv
      rw [hv, if_neg (by decide), dt c2, cond_t]
    · rw [df c2, cond_f, show (0 : Int) + 1 + 1 = 2 from rfl, data_Check_L1_L3]
      unfold data_Check_L1_L3.body
      simp (disch := first | omega | (simp only [List.length_append, List.length_cons, List.length_nil, List.length_set, List.length_take, List.length_drop, List.length_replicate]; omega) | fail) only [cond_t, cond_f, dt, df, w64, wu64, w8, ble_t, ble_f, ieqt, ieqf, inet, inef, Bool.not_true, Bool.not_false, Bool.true_and, Bool.and_true, Bool.false_and, Bool.and_false, Bool.not_not, dTrue, dFalse, Int.toNat_natCast, List.length_append, List.length_cons, List.length_nil, meet_self]
      rw [h3]
      by_cases c3 : 0 < i ∧ x.1 ≤ (rs.getD (i - 1) ((0 : Int), ((0 : Int), (false, ())))).1
      · rw [if_pos (by omega)] at hv
        rw [hv, if_neg (by decide), dt c3, cond_t]
      · rw [df c3, cond_f, show (2 : Int) + 1 = 3 from rfl, data_Check_L1_L3]
        unfold data_Check_L1_L3.body
        simp (disch := first | omega | (simp only [List.length_append, List.length_cons, List.length_nil, List.length_set, List.length_take, List.length_drop, List.length_replicate]; omega) | fail) only [cond_t, cond_f, dt, df, w64, wu64, w8, ble_t, ble_f, ieqt, ieqf, inet, inef, Bool.not_true, Bool.not_false, Bool.true_and, Bool.and_true, Bool.false_and, Bool.and_false, Bool.not_not, dTrue, dFalse, Int.toNat_natCast, List.length_append, List.length_cons, List.length_nil, meet_self]
        rw [r4_]
        by_cases c4 : x.2.1 < 0 ∨ x.2.1 ≥ (l.length : Int)
        · rw [if_pos (by omega)] at hv
          rw [hv, if_neg (by decide), dt c4, cond_t]
        · rw [if_neg (by omega)] at hv
          rw [df c4, cond_f, show (3 : Int) + 1 = 4 from rfl, data_Check_L1_L3]
          unfold data_Check_L1_L3.body
          simp (disch := first | omega | (simp only [List.length_append, List.length_cons, List.length_nil, List.length_set, List.length_take, List.length_drop, List.length_replicate]; omega) | fail) only [cond_t, cond_f, dt, df, w64, wu64, w8, ble_t, ble_f, ieqt, ieqf, inet, inef, Bool.not_true, Bool.not_false, Bool.true_and, Bool.and_true, Bool.false_and, Bool.and_false, Bool.not_not, dTrue, dFalse, Int.toNat_natCast, List.length_append, List.length_cons, List.length_nil, meet_self]
          rw [r5_ _ _ _ _ (by omega), hc (by omega)]
          by_cases c5 : (l.getD x.2.1.toNat ((⟨#[]⟩ : ByteArray), (false, ((0 : Int), ((0 : Int), ((0 : Int), ())))))).2.2.1 ≠ 1 ∨ (l.getD x.2.1.toNat ((⟨#[]⟩ : ByteArray), (false, ((0 : Int), ((0 : Int), ((0 : Int), ())))))).2.2.2.1 ≠ kd - 1
          · rw [if_pos c5] at hv
            rw [hv, if_neg (by decide), dt c5, cond_t]
          · rw [if_neg c5] at hv
            rw [hv, if_pos rfl, df c5, cond_f, show (4 : Int) + 1 = 5 from rfl, data_Check_L1_L3]
            unfold data_Check_L1_L3.body
            simp (disch := first | omega | (simp only [List.length_append, List.length_cons, List.length_nil, List.length_set, List.length_take, List.length_drop, List.length_replicate]; omega) | fail) only [cond_t, cond_f, dt, df, w64, wu64, w8, ble_t, ble_f, ieqt, ieqf, inet, inef, Bool.not_true, Bool.not_false, Bool.true_and, Bool.and_true, Bool.false_and, Bool.and_false, Bool.not_not, dTrue, dFalse, Int.toNat_natCast, List.length_append, List.length_cons, List.length_nil, meet_self]
theorem relL (kd : Int) (ws : List Int) (rs : List Rl) (l : List Sy) (hr : rs.length ≤ 1000) (hk : 0 ≤ kd ∧ kd ≤ 8) (cl : Int) (hc : 1 ≤ kd → cl = kd - 1) (k1 : Int → Option Bool) (k2 : Option Bool) : ∀ (n m i : Nat), i + m = rs.length → m < n →
    data_Check_L1 n rs (rs.length : Int) (i : Int) 11 11 11 11 8 (kd, ws, rs, ()) l cl k1 k2 = if relS kd ws rs l m i = 0 then k2 else k1 (relS kd ws rs l m i)
  | 0, m, i, _, h => by omega
  | n + 1, 0, i, h0, h1 => by
    rw [data_Check_L1]
    unfold data_Check_L1.body relS
    simp (disch := first | omega | (simp only [List.length_append, List.length_cons, List.length_nil, List.length_set, List.length_take, List.length_drop, List.length_replicate]; omega) | fail) only [cond_t, cond_f, dt, df, w64, wu64, w8, ble_t, ble_f, ieqt, ieqf, inet, inef, Bool.not_true, Bool.not_false, Bool.true_and, Bool.and_true, Bool.false_and, Bool.and_false, Bool.not_not, dTrue, dFalse, Int.toNat_natCast, List.length_append, List.length_cons, List.length_nil, meet_self]
    rfl
  | n + 1, m + 1, i, h0, h1 => by
    rw [data_Check_L1]
    unfold data_Check_L1.body relS
    have ih := relL kd ws rs l hr hk cl hc k1 k2 n m (i + 1) (by omega) (by omega)
    simp (disch := first | omega | (simp only [List.length_append, List.length_cons, List.length_nil, List.length_set, List.length_take, List.length_drop, List.length_replicate]; omega) | fail) only [cond_t, cond_f, dt, df, w64, wu64, w8, ble_t, ble_f, ieqt, ieqf, inet, inef, Bool.not_true, Bool.not_false, Bool.true_and, Bool.and_true, Bool.false_and, Bool.and_false, Bool.not_not, dTrue, dFalse, Int.toNat_natCast, List.length_append, List.length_cons, List.length_nil, meet_self]
    have hin := relIn kd ws rs l hr hk cl hc rs (rs.length : Int) i (by omega) k1 (fun l90 n91 n92 n93 n94 n95 n96 n97 t98 l99 n100 => data_Check_L1 n l90 n91 (IntKind.wrap .i64 (n92 + 1)) n93 n94 n95 n96 n97 t98 l99 n100 k1 k2)
    refine hin.trans ?_
    by_cases c : rel1 kd ws rs l i = 0
    · rw [if_pos c, if_pos c, w64 (by omega) (by omega)]
      exact ih
    · rw [if_neg c, if_neg c, if_neg c]
theorem rrelL (kd : Int) (ws : List Int) (rs : List Rl) (l : List Sy) (hr : rs.length ≤ 1000) (hk : 0 ≤ kd ∧ kd ≤ 8) (k1 : Int → Option Bool) (k2 : Option Bool) : ∀ (n m i : Nat), i + m = rs.length → m < n →
    ref15_Check_L2 n l (i : Int) (kd, ws, rs, ()) k1 k2 = if relS kd ws rs l m i = 0 then k2 else k1 (relS kd ws rs l m i)
  | 0, m, i, _, h => by omega
  | n + 1, 0, i, h0, h1 => by
    rw [ref15_Check_L2]
    unfold ref15_Check_L2.body relS
    simp (disch := first | omega | (simp only [List.length_append, List.length_cons, List.length_nil, List.length_set, List.length_take, List.length_drop, List.length_replicate]; omega) | fail) only [cond_t, cond_f, dt, df, w64, wu64, w8, ble_t, ble_f, ieqt, ieqf, inet, inef, Bool.not_true, Bool.not_false, Bool.true_and, Bool.and_true, Bool.false_and, Bool.and_false, Bool.not_not, dTrue, dFalse, Int.toNat_natCast, List.length_append, List.length_cons, List.length_nil, meet_self]
    rfl
  | n + 1, m + 1, i, h0, h1 => by
    rw [ref15_Check_L2]
    unfold ref15_Check_L2.body relS
    have ih := rrelL kd ws rs l hr hk k1 k2 n m (i + 1) (by omega) (by omega)
    have e : ((i : Int) - 1).toNat = i - 1 := by omega
    have hv : rel1 kd ws rs l i = if kd = 0 ∨ (rs.getD i ((0 : Int), ((0 : Int), (false, ())))).1 < 0 ∨ (rs.getD i ((0 : Int), ((0 : Int), (false, ())))).1 ≥ (ws.length : Int) ∨ (0 < i ∧ (rs.getD i ((0 : Int), ((0 : Int), (false, ())))).1 ≤ (rs.getD (i - 1) ((0 : Int), ((0 : Int), (false, ())))).1) ∨ (rs.getD i ((0 : Int), ((0 : Int), (false, ())))).2.1 < 0 ∨ (rs.getD i ((0 : Int), ((0 : Int), (false, ())))).2.1 ≥ (l.length : Int) then 11 else if (l.getD (rs.getD i ((0 : Int), ((0 : Int), (false, ())))).2.1.toNat ((⟨#[]⟩ : ByteArray), (false, ((0 : Int), ((0 : Int), ((0 : Int), ())))))).2.2.1 ≠ 1 ∨ (l.getD (rs.getD i ((0 : Int), ((0 : Int), (false, ())))).2.1.toNat ((⟨#[]⟩ : ByteArray), (false, ((0 : Int), ((0 : Int), ((0 : Int), ())))))).2.2.2.1 ≠ kd - 1 then 8 else 0 := rfl
    generalize rel1 kd ws rs l i = v at hv ⊢
    have n0 : ∀ a : Option Bool, (if (11 : Int) = 0 then a else k1 11) = k1 11 := fun a => if_neg (by decide)
    by_cases c1 : kd = 0
    · rw [if_pos (Or.inl c1)] at hv
      subst hv
      simp (disch := first | omega | (simp only [List.length_append, List.length_cons, List.length_nil, List.length_set, List.length_take, List.length_drop, List.length_replicate]; omega) | fail) only [cond_t, cond_f, dt, df, w64, wu64, w8, ble_t, ble_f, ieqt, ieqf, inet, inef, Bool.not_true, Bool.not_false, Bool.true_and, Bool.and_true, Bool.false_and, Bool.and_false, Bool.not_not, dTrue, dFalse, Int.toNat_natCast, List.length_append, List.length_cons, List.length_nil, meet_self]
      rfl
    · by_cases c2 : (rs.getD i ((0 : Int), ((0 : Int), (false, ())))).1 < 0
      · rw [if_pos (by omega)] at hv
        subst hv
        simp (disch := first | omega | (simp only [List.length_append, List.length_cons, List.length_nil, List.length_set, List.length_take, List.length_drop, List.length_replicate]; omega) | fail) only [cond_t, cond_f, dt, df, w64, wu64, w8, ble_t, ble_f, ieqt, ieqf, inet, inef, Bool.not_true, Bool.not_false, Bool.true_and, Bool.and_true, Bool.false_and, Bool.and_false, Bool.not_not, dTrue, dFalse, Int.toNat_natCast, List.length_append, List.length_cons, List.length_nil, meet_self]
        rfl
      · by_cases c3 : (rs.getD i ((0 : Int), ((0 : Int), (false, ())))).1 ≥ (ws.length : Int)
        · rw [if_pos (by omega)] at hv
          subst hv
          simp (disch := first | omega | (simp only [List.length_append, List.length_cons, List.length_nil, List.length_set, List.length_take, List.length_drop, List.length_replicate]; omega) | fail) only [cond_t, cond_f, dt, df, w64, wu64, w8, ble_t, ble_f, ieqt, ieqf, inet, inef, Bool.not_true, Bool.not_false, Bool.true_and, Bool.and_true, Bool.false_and, Bool.and_false, Bool.not_not, dTrue, dFalse, Int.toNat_natCast, List.length_append, List.length_cons, List.length_nil, meet_self]
          rfl
        · by_cases c4 : 0 < i ∧ (rs.getD i ((0 : Int), ((0 : Int), (false, ())))).1 ≤ (rs.getD (i - 1) ((0 : Int), ((0 : Int), (false, ())))).1
          · rw [if_pos (by omega)] at hv
            subst hv
            obtain ⟨c5, c6⟩ := c4
            simp (disch := first | omega | (simp only [List.length_append, List.length_cons, List.length_nil, List.length_set, List.length_take, List.length_drop, List.length_replicate]; omega) | fail) only [cond_t, cond_f, dt, df, w64, wu64, w8, ble_t, ble_f, ieqt, ieqf, inet, inef, Bool.not_true, Bool.not_false, Bool.true_and, Bool.and_true, Bool.false_and, Bool.and_false, Bool.not_not, dTrue, dFalse, Int.toNat_natCast, List.length_append, List.length_cons, List.length_nil, meet_self, e]
            rfl
          · have c6 : ∀ _ : 0 < i, ¬ (rs.getD i ((0 : Int), ((0 : Int), (false, ())))).1 ≤ (rs.getD (i - 1) ((0 : Int), ((0 : Int), (false, ())))).1 := fun g1 g => c4 ⟨g1, g⟩
            by_cases c7 : (rs.getD i ((0 : Int), ((0 : Int), (false, ())))).2.1 < 0
            · rw [if_pos (by omega)] at hv
              subst hv
              by_cases c5 : 0 < i
              · have c6 := c6 c5
                simp (disch := first | omega | (simp only [List.length_append, List.length_cons, List.length_nil, List.length_set, List.length_take, List.length_drop, List.length_replicate]; omega) | fail) only [cond_t, cond_f, dt, df, w64, wu64, w8, ble_t, ble_f, ieqt, ieqf, inet, inef, Bool.not_true, Bool.not_false, Bool.true_and, Bool.and_true, Bool.false_and, Bool.and_false, Bool.not_not, dTrue, dFalse, Int.toNat_natCast, List.length_append, List.length_cons, List.length_nil, meet_self, e]
                rfl
              · simp (disch := first | omega | (simp only [List.length_append, List.length_cons, List.length_nil, List.length_set, List.length_take, List.length_drop, List.length_replicate]; omega) | fail) only [cond_t, cond_f, dt, df, w64, wu64, w8, ble_t, ble_f, ieqt, ieqf, inet, inef, Bool.not_true, Bool.not_false, Bool.true_and, Bool.and_true, Bool.false_and, Bool.and_false, Bool.not_not, dTrue, dFalse, Int.toNat_natCast, List.length_append, List.length_cons, List.length_nil, meet_self]
                rfl
            · by_cases c8 : (rs.getD i ((0 : Int), ((0 : Int), (false, ())))).2.1 ≥ (l.length : Int)
              · rw [if_pos (by omega)] at hv
                subst hv
                by_cases c5 : 0 < i
                · have c6 := c6 c5
                  simp (disch := first | omega | (simp only [List.length_append, List.length_cons, List.length_nil, List.length_set, List.length_take, List.length_drop, List.length_replicate]; omega) | fail) only [cond_t, cond_f, dt, df, w64, wu64, w8, ble_t, ble_f, ieqt, ieqf, inet, inef, Bool.not_true, Bool.not_false, Bool.true_and, Bool.and_true, Bool.false_and, Bool.and_false, Bool.not_not, dTrue, dFalse, Int.toNat_natCast, List.length_append, List.length_cons, List.length_nil, meet_self, e]
                  rfl
                · simp (disch := first | omega | (simp only [List.length_append, List.length_cons, List.length_nil, List.length_set, List.length_take, List.length_drop, List.length_replicate]; omega) | fail) only [cond_t, cond_f, dt, df, w64, wu64, w8, ble_t, ble_f, ieqt, ieqf, inet, inef, Bool.not_true, Bool.not_false, Bool.true_and, Bool.and_true, Bool.false_and, Bool.and_false, Bool.not_not, dTrue, dFalse, Int.toNat_natCast, List.length_append, List.length_cons, List.length_nil, meet_self]
                  rfl
              · rw [if_neg (by omega)] at hv
                by_cases c9 : (l.getD (rs.getD i ((0 : Int), ((0 : Int), (false, ())))).2.1.toNat ((⟨#[]⟩ : ByteArray), (false, ((0 : Int), ((0 : Int), ((0 : Int), ())))))).2.2.1 = 1
                · by_cases c10 : (l.getD (rs.getD i ((0 : Int), ((0 : Int), (false, ())))).2.1.toNat ((⟨#[]⟩ : ByteArray), (false, ((0 : Int), ((0 : Int), ((0 : Int), ())))))).2.2.2.1 = kd - 1
                  · rw [if_neg (by omega)] at hv
                    subst hv
                    by_cases c5 : 0 < i
                    · have c6 := c6 c5
                      simp (disch := first | omega | (simp only [List.length_append, List.length_cons, List.length_nil, List.length_set, List.length_take, List.length_drop, List.length_replicate]; omega) | fail) only [cond_t, cond_f, dt, df, w64, wu64, w8, ble_t, ble_f, ieqt, ieqf, inet, inef, Bool.not_true, Bool.not_false, Bool.true_and, Bool.and_true, Bool.false_and, Bool.and_false, Bool.not_not, dTrue, dFalse, Int.toNat_natCast, List.length_append, List.length_cons, List.length_nil, meet_self, e]
                      rw [if_pos trivial]
                      exact ih
                    · simp (disch := first | omega | (simp only [List.length_append, List.length_cons, List.length_nil, List.length_set, List.length_take, List.length_drop, List.length_replicate]; omega) | fail) only [cond_t, cond_f, dt, df, w64, wu64, w8, ble_t, ble_f, ieqt, ieqf, inet, inef, Bool.not_true, Bool.not_false, Bool.true_and, Bool.and_true, Bool.false_and, Bool.and_false, Bool.not_not, dTrue, dFalse, Int.toNat_natCast, List.length_append, List.length_cons, List.length_nil, meet_self]
                      rw [if_pos trivial]
                      exact ih
                  · rw [if_pos (by omega)] at hv
                    subst hv
                    by_cases c5 : 0 < i
                    · have c6 := c6 c5
                      simp (disch := first | omega | (simp only [List.length_append, List.length_cons, List.length_nil, List.length_set, List.length_take, List.length_drop, List.length_replicate]; omega) | fail) only [cond_t, cond_f, dt, df, w64, wu64, w8, ble_t, ble_f, ieqt, ieqf, inet, inef, Bool.not_true, Bool.not_false, Bool.true_and, Bool.and_true, Bool.false_and, Bool.and_false, Bool.not_not, dTrue, dFalse, Int.toNat_natCast, List.length_append, List.length_cons, List.length_nil, meet_self, e]
                      rfl
                    · simp (disch := first | omega | (simp only [List.length_append, List.length_cons, List.length_nil, List.length_set, List.length_take, List.length_drop, List.length_replicate]; omega) | fail) only [cond_t, cond_f, dt, df, w64, wu64, w8, ble_t, ble_f, ieqt, ieqf, inet, inef, Bool.not_true, Bool.not_false, Bool.true_and, Bool.and_true, Bool.false_and, Bool.and_false, Bool.not_not, dTrue, dFalse, Int.toNat_natCast, List.length_append, List.length_cons, List.length_nil, meet_self]
                      rfl
                · rw [if_pos (by omega)] at hv
                  subst hv
                  by_cases c5 : 0 < i
                  · have c6 := c6 c5
                    simp (disch := first | omega | (simp only [List.length_append, List.length_cons, List.length_nil, List.length_set, List.length_take, List.length_drop, List.length_replicate]; omega) | fail) only [cond_t, cond_f, dt, df, w64, wu64, w8, ble_t, ble_f, ieqt, ieqf, inet, inef, Bool.not_true, Bool.not_false, Bool.true_and, Bool.and_true, Bool.false_and, Bool.and_false, Bool.not_not, dTrue, dFalse, Int.toNat_natCast, List.length_append, List.length_cons, List.length_nil, meet_self, e]
                    rfl
                  · simp (disch := first | omega | (simp only [List.length_append, List.length_cons, List.length_nil, List.length_set, List.length_take, List.length_drop, List.length_replicate]; omega) | fail) only [cond_t, cond_f, dt, df, w64, wu64, w8, ble_t, ble_f, ieqt, ieqf, inet, inef, Bool.not_true, Bool.not_false, Bool.true_and, Bool.and_true, Bool.false_and, Bool.and_false, Bool.not_not, dTrue, dFalse, Int.toNat_natCast, List.length_append, List.length_cons, List.length_nil, meet_self]
                    rfl
open Classical in
noncomputable def checkD (kd : Int) (ws : List Int) (rs : List Rl) (l : List Sy) : Int := if (textS kd).toList = [] then 8 else if 32 < ws.length then 6 else if kd ≠ 0 ∧ some0 ws 0 then 2 else relS kd ws rs l rs.length 0
theorem rules_ (kd : Int) (ws : List Int) (rs : List Rl) (l : List Sy) (hk : 0 ≤ kd ∧ kd ≤ 8) (k : Int → Int → Int → Int → Int → Dt → List Sy → Int → Option Bool) : data_rules (kd, ws, rs, ()) l k = k 11 11 11 11 8 (kd, ws, rs, ()) l (if 1 ≤ kd then kd - 1 else 0) := by
  unfold data_rules data_rules.body sig_Class sig_Class.body sig_Is sig_Is.body
  by_cases c : 1 ≤ kd
  · rw [if_pos c]
    simp (disch := first | omega | (simp only [List.length_append, List.length_cons, List.length_nil, List.length_set, List.length_take, List.length_drop, List.length_replicate]; omega) | fail) only [cond_t, cond_f, dt, df, w64, wu64, w8, ble_t, ble_f, ieqt, ieqf, inet, inef, Bool.not_true, Bool.not_false, Bool.true_and, Bool.and_true, Bool.false_and, Bool.and_false, Bool.not_not, dTrue, dFalse, Int.toNat_natCast, List.length_append, List.length_cons, List.length_nil, meet_self]
  · rw [if_neg c]
    simp (disch := first | omega | (simp only [List.length_append, List.length_cons, List.length_nil, List.length_set, List.length_take, List.length_drop, List.length_replicate]; omega) | fail) only [cond_t, cond_f, dt, df, w64, wu64, w8, ble_t, ble_f, ieqt, ieqf, inet, inef, Bool.not_true, Bool.not_false, Bool.true_and, Bool.and_true, Bool.false_and, Bool.and_false, Bool.not_not, dTrue, dFalse, Int.toNat_natCast, List.length_append, List.length_cons, List.length_nil, meet_self]
open Classical in
theorem dcheck_ (kd : Int) (ws : List Int) (rs : List Rl) (l : List Sy) (hw : ws.length ≤ 1000) (hr : rs.length ≤ 1000) (k : Int → Option Bool) : data_Check (kd, ws, rs, ()) l k = k (checkD kd ws rs l) := by
  unfold data_Check data_Check.body checkD
  rw [text_, noName]
  by_cases h1 : (textS kd).toList = []
  · rw [if_pos h1, dt h1, cond_t]
  · have hk := textS_in h1
    rw [if_neg h1, df h1, cond_f]
    have tail : (data_rules (kd, ws, rs, ()) l fun n102 n103 n104 n105 n106 t107 l108 n109 => data_Check_L1 ROUNDS rs (rs.length : Int) 0 n102 n103 n104 n105 n106 t107 l108 n109 (fun n110 => k n110) (k 0)) = k (relS kd ws rs l rs.length 0) := by
      rw [rules_ kd ws rs l hk]
      refine (relL kd ws rs l hr hk _ (fun h => if_pos h) _ _ ROUNDS rs.length 0 (by omega) (by unfold ROUNDS; omega)).trans ?_
      by_cases c : relS kd ws rs l rs.length 0 = 0
      · rw [if_pos c, c]
      · rw [if_neg c]
    by_cases h2 : 32 < ws.length
    · rw [if_pos h2]
      simp (disch := first | omega | (simp only [List.length_append, List.length_cons, List.length_nil, List.length_set, List.length_take, List.length_drop, List.length_replicate]; omega) | fail) only [cond_t, cond_f, dt, df, w64, wu64, w8, ble_t, ble_f, ieqt, ieqf, inet, inef, Bool.not_true, Bool.not_false, Bool.true_and, Bool.and_true, Bool.false_and, Bool.and_false, Bool.not_not, dTrue, dFalse, Int.toNat_natCast, List.length_append, List.length_cons, List.length_nil, meet_self]
    · rw [if_neg h2, cond_neg (df (by dsimp only; omega))]
      by_cases h3 : kd = 0
      · rw [if_neg (fun g => g.1 h3), cond_neg (inef h3)]
        exact tail
      · rw [cond_pos (inet h3), contains_ ws hw]
        by_cases h4 : some0 ws 0
        · rw [if_pos ⟨h3, h4⟩, dt h4, cond_t]
        · rw [if_neg (fun g => h4 g.2), df h4, cond_f]
          exact tail
open Classical in
theorem rdcheck_ (kd : Int) (ws : List Int) (rs : List Rl) (l : List Sy) (hk0 : -9223372036854775808 ≤ kd ∧ kd ≤ 9223372036854775807) (hw : ws.length ≤ 1000) (hr : rs.length ≤ 1000) (k : Int → Option Bool) : ref15_Check (kd, ws, rs, ()) l k = k (checkD kd ws rs l) := by
  unfold ref15_Check ref15_Check.body checkD
  rw [rtext_ hk0, noName]
  by_cases h1 : (textS kd).toList = []
  · rw [if_pos h1, dt h1, cond_t]
  · have hk := textS_in h1
    rw [if_neg h1, df h1, cond_f]
    by_cases h2 : 32 < ws.length
    · rw [if_pos h2]
      simp (disch := first | omega | (simp only [List.length_append, List.length_cons, List.length_nil, List.length_set, List.length_take, List.length_drop, List.length_replicate]; omega) | fail) only [cond_t, cond_f, dt, df, w64, wu64, w8, ble_t, ble_f, ieqt, ieqf, inet, inef, Bool.not_true, Bool.not_false, Bool.true_and, Bool.and_true, Bool.false_and, Bool.and_false, Bool.not_not, dTrue, dFalse, Int.toNat_natCast, List.length_append, List.length_cons, List.length_nil, meet_self]
    · rw [if_neg h2, cond_neg (df (by dsimp only; omega))]
      refine (rwordsL kd ws rs l hw _ _ ROUNDS 0 (by omega) (by unfold ROUNDS; omega)).trans ?_
      by_cases h3 : kd ≠ 0 ∧ some0 ws 0
      · rw [if_pos h3, if_pos h3]
      · rw [if_neg h3, if_neg h3]
        refine (rrelL kd ws rs l hr hk _ _ ROUNDS rs.length 0 (by omega) (by unfold ROUNDS; omega)).trans ?_
        by_cases c : relS kd ws rs l rs.length 0 = 0
        · rw [if_pos c, c]
        · rw [if_neg c]
/-- the first reference at a place -/
def fx : List Rl → Int → Nat
  | [], _ => 0
  | x :: r, p => if x.1 = p then 0 else fx r p + 1
theorem fx_le : ∀ (l : List Rl) (p : Int), fx l p ≤ l.length
  | [], _ => Nat.le_refl _
  | x :: r, p => by
    rw [fx]
    split
    · exact Nat.zero_le _
    · have := fx_le r p
      rw [List.length_cons]; omega
theorem fx_at (l : List Rl) (p : Int) (i : Nat) (hi : i < l.length) : fx (l.drop i) p = if (l.getD i ((0 : Int), ((0 : Int), (false, ())))).1 = p then 0 else fx (l.drop (i + 1)) p + 1 := by
  rw [List.drop_eq_getElem_cons hi, fx]
  have e : l.getD i ((0 : Int), ((0 : Int), (false, ()))) = l[i] := by rw [List.getD_eq_getElem?_getD, List.getElem?_eq_getElem hi]; rfl
  rw [e]
def mk (l : List Rl) (p : Int) (i : Nat) : Int := if i + fx (l.drop i) p < l.length then ((i + fx (l.drop i) p : Nat) : Int) else -1
theorem mk_step (l : List Rl) (p : Int) (i : Nat) (hi : i < l.length) : mk l p i = if (l.getD i ((0 : Int), ((0 : Int), (false, ())))).1 = p then (i : Int) else mk l p (i + 1) := by
  unfold mk
  rw [fx_at l p i hi]
  by_cases c : (l.getD i ((0 : Int), ((0 : Int), (false, ())))).1 = p
  · rw [if_pos c, if_pos c, if_pos (by omega)]
    rfl
  · rw [if_neg c, if_neg c]
    rw [show i + (fx (l.drop (i + 1)) p + 1) = i + 1 + fx (l.drop (i + 1)) p by omega]
theorem mk_end (l : List Rl) (p : Int) : mk l p l.length = -1 := by
  unfold mk
  rw [if_neg (by omega)]
theorem mk_in (l : List Rl) (p : Int) (i : Nat) : mk l p i < (l.length : Int) := by
  unfold mk
  split <;> omega
theorem ixL (l : List Rl) (p : Int) (hl : l.length ≤ 1000) (k1 : Int → Int → Option Bool) (k2 : Int → Option Bool) (H : k2 p = k1 (-1) p) : ∀ (n i : Nat), i ≤ l.length → l.length - i < n → slices_IndexFunc_api_Reloc_api_Reloc_L0 n l (l.length : Int) (i : Int) p k1 k2 = k1 (mk l p i) p
  | 0, i, _, h => by omega
  | n + 1, i, h0, h1 => by
    rw [slices_IndexFunc_api_Reloc_api_Reloc_L0]
    unfold slices_IndexFunc_api_Reloc_api_Reloc_L0.body data_Marksfn1 data_Marksfn1.body
    by_cases h : i < l.length
    · rw [mk_step l p i h]
      have ih := ixL l p hl k1 k2 H n (i + 1) (by omega) (by omega)
      by_cases c : (l.getD i ((0 : Int), ((0 : Int), (false, ())))).1 = p
      · rw [if_pos c]
        simp (disch := first | omega | (simp only [List.length_append, List.length_cons, List.length_nil, List.length_set, List.length_take, List.length_drop, List.length_replicate]; omega) | fail) only [cond_t, cond_f, dt, df, w64, wu64, w8, ble_t, ble_f, ieqt, ieqf, inet, inef, Bool.not_true, Bool.not_false, Bool.true_and, Bool.and_true, Bool.false_and, Bool.and_false, Bool.not_not, dTrue, dFalse, Int.toNat_natCast, List.length_append, List.length_cons, List.length_nil, meet_self]
      · rw [if_neg c]
        simp (disch := first | omega | (simp only [List.length_append, List.length_cons, List.length_nil, List.length_set, List.length_take, List.length_drop, List.length_replicate]; omega) | fail) only [cond_t, cond_f, dt, df, w64, wu64, w8, ble_t, ble_f, ieqt, ieqf, inet, inef, Bool.not_true, Bool.not_false, Bool.true_and, Bool.and_true, Bool.false_and, Bool.and_false, Bool.not_not, dTrue, dFalse, Int.toNat_natCast, List.length_append, List.length_cons, List.length_nil, meet_self]
        exact ih
    · obtain rfl : i = l.length := by omega
      rw [mk_end]
      simp (disch := first | omega | (simp only [List.length_append, List.length_cons, List.length_nil, List.length_set, List.length_take, List.length_drop, List.length_replicate]; omega) | fail) only [cond_t, cond_f, dt, df, w64, wu64, w8, ble_t, ble_f, ieqt, ieqf, inet, inef, Bool.not_true, Bool.not_false, Bool.true_and, Bool.and_true, Bool.false_and, Bool.and_false, Bool.not_not, dTrue, dFalse, Int.toNat_natCast, List.length_append, List.length_cons, List.length_nil, meet_self]
      exact H
theorem ix_ (l : List Rl) (p : Int) (hl : l.length ≤ 1000) (k : Int → Int → Option Bool) : slices_IndexFunc_api_Reloc_api_Reloc l p k = k (mk l p 0) p := by
  unfold slices_IndexFunc_api_Reloc_api_Reloc slices_IndexFunc_api_Reloc_api_Reloc.body
  exact ixL l p hl _ _ rfl ROUNDS 0 (by omega) (by unfold ROUNDS; omega)
theorem rixL (l : List Rl) (q p : Int) (hl : l.length ≤ 1000) (ns : List Int) (k : List Rl → Int → Int → Int → List Int → Option Bool) : ∀ (n i : Nat), i ≤ l.length → i < n → ref15_Marks_L0_L2 n l q p (mk l p i) ((i : Int) - 1) ns k = k l q p (mk l p 0) ns
  | 0, i, _, h => by omega
  | n + 1, 0, h0, h1 => by
    rw [ref15_Marks_L0_L2]
    unfold ref15_Marks_L0_L2.body
    simp (disch := first | omega | (simp only [List.length_append, List.length_cons, List.length_nil, List.length_set, List.length_take, List.length_drop, List.length_replicate]; omega) | fail) only [cond_t, cond_f, dt, df, w64, wu64, w8, ble_t, ble_f, ieqt, ieqf, inet, inef, Bool.not_true, Bool.not_false, Bool.true_and, Bool.and_true, Bool.false_and, Bool.and_false, Bool.not_not, dTrue, dFalse, Int.toNat_natCast, List.length_append, List.length_cons, List.length_nil, meet_self]
  | n + 1, i + 1, h0, h1 => by
    rw [ref15_Marks_L0_L2]
    unfold ref15_Marks_L0_L2.body
    have ih := rixL l q p hl ns k n i (by omega) (by omega)
    rw [mk_step l p i (by omega)] at ih
    have e1 : ((i + 1 : Nat) : Int) - 1 = (i : Int) := by omega
    rw [e1]
    by_cases c : (l.getD i ((0 : Int), ((0 : Int), (false, ())))).1 = p
    · rw [if_pos c] at ih
      simp (disch := first | omega | (simp only [List.length_append, List.length_cons, List.length_nil, List.length_set, List.length_take, List.length_drop, List.length_replicate]; omega) | fail) only [cond_t, cond_f, dt, df, w64, wu64, w8, ble_t, ble_f, ieqt, ieqf, inet, inef, Bool.not_true, Bool.not_false, Bool.true_and, Bool.and_true, Bool.false_and, Bool.and_false, Bool.not_not, dTrue, dFalse, Int.toNat_natCast, List.length_append, List.length_cons, List.length_nil, meet_self]
      exact ih
    · rw [if_neg c] at ih
      simp (disch := first | omega | (simp only [List.length_append, List.length_cons, List.length_nil, List.length_set, List.length_take, List.length_drop, List.length_replicate]; omega) | fail) only [cond_t, cond_f, dt, df, w64, wu64, w8, ble_t, ble_f, ieqt, ieqf, inet, inef, Bool.not_true, Bool.not_false, Bool.true_and, Bool.and_true, Bool.false_and, Bool.and_false, Bool.not_not, dTrue, dFalse, Int.toNat_natCast, List.length_append, List.length_cons, List.length_nil, meet_self]
      exact ih
def marksS (l : List Rl) (n : Nat) : List Int := (List.range n).map fun i : Nat => mk l (i : Int) 0
theorem marksS_len (l : List Rl) (n : Nat) : (marksS l n).length = n := by unfold marksS; rw [List.length_map, List.length_range]
theorem marksS_snoc (l : List Rl) (n : Nat) : marksS l (n + 1) = marksS l n ++ [mk l (n : Int) 0] := by
  unfold marksS
  rw [List.range_succ, List.map_append]
  rfl
theorem marksS_get (l : List Rl) (n i : Nat) (h : i < n) : (marksS l n).getD i 0 = mk l (i : Int) 0 := by
  unfold marksS
  rw [List.getD_eq_getElem?_getD, List.getElem?_map, List.getElem?_range h]
  rfl
def place (n : Int) : Nat := (min n 4096).toNat
theorem marksL (l : List Rl) (hl : l.length ≤ 1000) (m : Nat) (hm : m ≤ 4096) (k : List Int → Option Bool) : ∀ (n i : Nat), i ≤ m → m - i < n → data_Marks_L0 n l (m : Int) (i : Int) (marksS l i) k = k (marksS l m)
  | 0, i, _, h => by omega
  | n + 1, i, h0, h1 => by
    rw [data_Marks_L0]
    unfold data_Marks_L0.body
    by_cases h : i < m
    · have hr := marksS_len l i
      simp (disch := first | omega | (simp only [List.length_append, List.length_cons, List.length_nil, List.length_set, List.length_take, List.length_drop, List.length_replicate]; omega) | fail) only [cond_t, cond_f, dt, df, w64, wu64, w8, ble_t, ble_f, ieqt, ieqf, inet, inef, Bool.not_true, Bool.not_false, Bool.true_and, Bool.and_true, Bool.false_and, Bool.and_false, Bool.not_not, dTrue, dFalse, Int.toNat_natCast, List.length_append, List.length_cons, List.length_nil, meet_self, ix_ l _ hl, ← marksS_snoc]
      exact marksL l hl m hm k n (i + 1) (by omega) (by omega)
    · obtain rfl : i = m := by omega
      simp (disch := first | omega | (simp only [List.length_append, List.length_cons, List.length_nil, List.length_set, List.length_take, List.length_drop, List.length_replicate]; omega) | fail) only [cond_t, cond_f, dt, df, w64, wu64, w8, ble_t, ble_f, ieqt, ieqf, inet, inef, Bool.not_true, Bool.not_false, Bool.true_and, Bool.and_true, Bool.false_and, Bool.and_false, Bool.not_not, dTrue, dFalse, Int.toNat_natCast, List.length_append, List.length_cons, List.length_nil, meet_self]
theorem marks_ (l : List Rl) (hl : l.length ≤ 1000) (p : Int) (k : List Int → Option Bool) : data_Marks l p k = k (marksS l (place p)) := by
  unfold data_Marks data_Marks.body
  have e : (if (0 : Int) < (if 4096 < p then 4096 else p) then (if 4096 < p then 4096 else p) else 0) = ((place p : Nat) : Int) := by
    unfold place
    split
    · split <;> omega
    · split <;> omega
  rw [e]
  exact marksL l hl (place p) (by unfold place; omega) k ROUNDS 0 (by omega) (by unfold ROUNDS place; omega)
theorem rmarksL (l : List Rl) (hl : l.length ≤ 1000) (p : Int) (k : List Int → Option Bool) : ∀ (n i : Nat), i ≤ place p → place p - i < n → ref15_Marks_L0 n l p (i : Int) (marksS l i) k = k (marksS l (place p))
  | 0, i, _, h => by omega
  | n + 1, i, h0, h1 => by
    rw [ref15_Marks_L0]
    unfold ref15_Marks_L0.body
    have hp : place p = (min p 4096).toNat := rfl
    by_cases h : i < place p
    · have hr := marksS_len l i
      simp (disch := first | omega | (simp only [List.length_append, List.length_cons, List.length_nil, List.length_set, List.length_take, List.length_drop, List.length_replicate]; omega) | fail) only [cond_t, cond_f, dt, df, w64, wu64, w8, ble_t, ble_f, ieqt, ieqf, inet, inef, Bool.not_true, Bool.not_false, Bool.true_and, Bool.and_true, Bool.false_and, Bool.and_false, Bool.not_not, dTrue, dFalse, Int.toNat_natCast, List.length_append, List.length_cons, List.length_nil, meet_self]
      rw [← mk_end l (i : Int), rixL l p (i : Int) hl _ _ ROUNDS l.length (by omega) (by unfold ROUNDS; omega)]
      simp (disch := first | omega | (simp only [List.length_append, List.length_cons, List.length_nil, List.length_set, List.length_take, List.length_drop, List.length_replicate]; omega) | fail) only [cond_t, cond_f, dt, df, w64, wu64, w8, ble_t, ble_f, ieqt, ieqf, inet, inef, Bool.not_true, Bool.not_false, Bool.true_and, Bool.and_true, Bool.false_and, Bool.and_false, Bool.not_not, dTrue, dFalse, Int.toNat_natCast, List.length_append, List.length_cons, List.length_nil, meet_self, ← marksS_snoc]
      exact rmarksL l hl p k n (i + 1) (by omega) (by omega)
    · have hi : i = place p := by omega
      by_cases h5 : (i : Int) < p
      · simp (disch := first | omega | (simp only [List.length_append, List.length_cons, List.length_nil, List.length_set, List.length_take, List.length_drop, List.length_replicate]; omega) | fail) only [cond_t, cond_f, dt, df, w64, wu64, w8, ble_t, ble_f, ieqt, ieqf, inet, inef, Bool.not_true, Bool.not_false, Bool.true_and, Bool.and_true, Bool.false_and, Bool.and_false, Bool.not_not, dTrue, dFalse, Int.toNat_natCast, List.length_append, List.length_cons, List.length_nil, meet_self]
        rw [hi]
      · simp (disch := first | omega | (simp only [List.length_append, List.length_cons, List.length_nil, List.length_set, List.length_take, List.length_drop, List.length_replicate]; omega) | fail) only [cond_t, cond_f, dt, df, w64, wu64, w8, ble_t, ble_f, ieqt, ieqf, inet, inef, Bool.not_true, Bool.not_false, Bool.true_and, Bool.and_true, Bool.false_and, Bool.and_false, Bool.not_not, dTrue, dFalse, Int.toNat_natCast, List.length_append, List.length_cons, List.length_nil, meet_self]
        rw [hi]
theorem rmarks_ (l : List Rl) (hl : l.length ≤ 1000) (p : Int) (k : List Int → Option Bool) : ref15_Marks l p k = k (marksS l (place p)) := by
  unfold ref15_Marks ref15_Marks.body
  exact rmarksL l hl p k ROUNDS 0 (by omega) (by unfold ROUNDS place; omega)
theorem refsL (kd : Int) (ws : List Int) (rs : List Rl) (hl : rs.length ≤ 1000) : ∀ (n i : Nat) (ns : List Int), ns.length ≤ 5000 → i ≤ ns.length → ns.length - i < n → (∀ j, i ≤ j → j < ns.length → ns.getD j 0 < (rs.length : Int)) →
    ∃ r : List Int, r.length = ns.length ∧ (∀ k, data_Refs_L0 n (ns.length : Int) (i : Int) (kd, ws, rs, ()) ns k = k r) ∧ (∀ k, ref15_Refs_L0 n (i : Int) (kd, ws, rs, ()) ns k = k r)
  | 0, i, ns, _, _, h, _ => by omega
  | n + 1, i, ns, hn, h0, h1, hv => by
    by_cases h : i < ns.length
    · have hvi := hv i (by omega) h
      by_cases c : ns.getD i 0 ≥ 0
      · obtain ⟨r, h2, h3, h4⟩ := refsL kd ws rs hl n (i + 1) (ns.set i (rs.getD (ns.getD i 0).toNat ((0 : Int), ((0 : Int), (false, ())))).2.1) (by rw [List.length_set]; exact hn) (by rw [List.length_set]; omega) (by rw [List.length_set]; omega) (fun j hj hj2 => by
          rw [List.length_set] at hj2
          rw [List.getD_eq_getElem?_getD, List.getElem?_set_ne (by omega), ← List.getD_eq_getElem?_getD]
          exact hv j (by omega) hj2)
        rw [List.length_set] at h2 h3
        refine ⟨r, h2, fun k => ?_, fun k => ?_⟩
        · rw [data_Refs_L0]
          unfold data_Refs_L0.body
          simp (disch := first | omega | (simp only [List.length_append, List.length_cons, List.length_nil, List.length_set, List.length_take, List.length_drop, List.length_replicate]; omega) | fail) only [cond_t, cond_f, dt, df, w64, wu64, w8, ble_t, ble_f, ieqt, ieqf, inet, inef, Bool.not_true, Bool.not_false, Bool.true_and, Bool.and_true, Bool.false_and, Bool.and_false, Bool.not_not, dTrue, dFalse, Int.toNat_natCast, List.length_append, List.length_cons, List.length_nil, meet_self]
          exact h3 k
        · rw [ref15_Refs_L0]
          unfold ref15_Refs_L0.body
          simp (disch := first | omega | (simp only [List.length_append, List.length_cons, List.length_nil, List.length_set, List.length_take, List.length_drop, List.length_replicate]; omega) | fail) only [cond_t, cond_f, dt, df, w64, wu64, w8, ble_t, ble_f, ieqt, ieqf, inet, inef, Bool.not_true, Bool.not_false, Bool.true_and, Bool.and_true, Bool.false_and, Bool.and_false, Bool.not_not, dTrue, dFalse, Int.toNat_natCast, List.length_append, List.length_cons, List.length_nil, meet_self]
          exact h4 k
      · obtain ⟨r, h2, h3, h4⟩ := refsL kd ws rs hl n (i + 1) ns hn (by omega) (by omega) (fun j hj hj2 => hv j (by omega) hj2)
        refine ⟨r, h2, fun k => ?_, fun k => ?_⟩
        · rw [data_Refs_L0]
          unfold data_Refs_L0.body
          simp (disch := first | omega | (simp only [List.length_append, List.length_cons, List.length_nil, List.length_set, List.length_take, List.length_drop, List.length_replicate]; omega) | fail) only [cond_t, cond_f, dt, df, w64, wu64, w8, ble_t, ble_f, ieqt, ieqf, inet, inef, Bool.not_true, Bool.not_false, Bool.true_and, Bool.and_true, Bool.false_and, Bool.and_false, Bool.not_not, dTrue, dFalse, Int.toNat_natCast, List.length_append, List.length_cons, List.length_nil, meet_self]
          exact h3 k
        · rw [ref15_Refs_L0]
          unfold ref15_Refs_L0.body
          simp (disch := first | omega | (simp only [List.length_append, List.length_cons, List.length_nil, List.length_set, List.length_take, List.length_drop, List.length_replicate]; omega) | fail) only [cond_t, cond_f, dt, df, w64, wu64, w8, ble_t, ble_f, ieqt, ieqf, inet, inef, Bool.not_true, Bool.not_false, Bool.true_and, Bool.and_true, Bool.false_and, Bool.and_false, Bool.not_not, dTrue, dFalse, Int.toNat_natCast, List.length_append, List.length_cons, List.length_nil, meet_self]
          exact h4 k
    · refine ⟨ns, rfl, fun k => ?_, fun k => ?_⟩
      · rw [data_Refs_L0]
        unfold data_Refs_L0.body
        simp (disch := first | omega | (simp only [List.length_append, List.length_cons, List.length_nil, List.length_set, List.length_take, List.length_drop, List.length_replicate]; omega) | fail) only [cond_t, cond_f, dt, df, w64, wu64, w8, ble_t, ble_f, ieqt, ieqf, inet, inef, Bool.not_true, Bool.not_false, Bool.true_and, Bool.and_true, Bool.false_and, Bool.and_false, Bool.not_not, dTrue, dFalse, Int.toNat_natCast, List.length_append, List.length_cons, List.length_nil, meet_self]
      · rw [ref15_Refs_L0]
        unfold ref15_Refs_L0.body
        simp (disch := first | omega | (simp only [List.length_append, List.length_cons, List.length_nil, List.length_set, List.length_take, List.length_drop, List.length_replicate]; omega) | fail) only [cond_t, cond_f, dt, df, w64, wu64, w8, ble_t, ble_f, ieqt, ieqf, inet, inef, Bool.not_true, Bool.not_false, Bool.true_and, Bool.and_true, Bool.false_and, Bool.and_false, Bool.not_not, dTrue, dFalse, Int.toNat_natCast, List.length_append, List.length_cons, List.length_nil, meet_self]
theorem refs_ (kd : Int) (ws : List Int) (rs : List Rl) (hl : rs.length ≤ 1000) (hw : ws.length ≤ 1000) : ∃ r : List Int, r.length ≤ 5000 ∧ (∀ k, data_Refs (kd, ws, rs, ()) k = k r) ∧ (∀ k, ref15_Refs (kd, ws, rs, ()) k = k r) := by
  have hm := marksS_len rs (place (ws.length : Int))
  have hp : place (ws.length : Int) ≤ 4096 := by unfold place; omega
  obtain ⟨r, h2, h3, h4⟩ := refsL kd ws rs hl ROUNDS 0 (marksS rs (place (ws.length : Int))) (by omega) (by omega) (by unfold ROUNDS; omega) (fun j _ hj => by
    rw [hm] at hj
    rw [marksS_get _ _ _ hj]
    exact mk_in _ _ _)
  refine ⟨r, by omega, fun k => ?_, fun k => ?_⟩
  · unfold data_Refs data_Refs.body
    rw [marks_ rs hl]
    exact h3 k
  · unfold ref15_Refs ref15_Refs.body
    rw [rmarks_ rs hl]
    exact h4 k
theorem intsL (ns : List Int) (k1 : Bool → Option Bool) (k2 : Option Bool) (hn : ns.length ≤ 5000) : ∀ (n i : Nat), i ≤ ns.length → ns.length - i < n → ref01_Ints_L0 n ns ns (i : Int) k1 k2 = k2
  | 0, i, _, h => by omega
  | n + 1, i, h1, h2 => by
    rw [ref01_Ints_L0]
    unfold ref01_Ints_L0.body
    by_cases h : i < ns.length
    · simp (disch := first | omega | (simp only [List.length_append, List.length_cons, List.length_nil, List.length_set, List.length_take, List.length_drop, List.length_replicate]; omega) | fail) only [cond_t, cond_f, dt, df, w64, wu64, w8, ble_t, ble_f, ieqt, ieqf, inet, inef, Bool.not_true, Bool.not_false, Bool.true_and, Bool.and_true, Bool.false_and, Bool.and_false, Bool.not_not, dTrue, dFalse, Int.toNat_natCast, List.length_append, List.length_cons, List.length_nil, meet_self]
      exact intsL ns k1 k2 hn n (i + 1) (by omega) (by omega)
    · simp (disch := first | omega | (simp only [List.length_append, List.length_cons, List.length_nil, List.length_set, List.length_take, List.length_drop, List.length_replicate]; omega) | fail) only [cond_t, cond_f, dt, df, w64, wu64, w8, ble_t, ble_f, ieqt, ieqf, inet, inef, Bool.not_true, Bool.not_false, Bool.true_and, Bool.and_true, Bool.false_and, Bool.and_false, Bool.not_not, dTrue, dFalse, Int.toNat_natCast, List.length_append, List.length_cons, List.length_nil, meet_self]
theorem ints_ (ns : List Int) (hn : ns.length ≤ 5000) (k : Bool → Option Bool) : ref01_Ints ns ns k = k true := by
  unfold ref01_Ints ref01_Ints.body
  simp (disch := first | omega | (simp only [List.length_append, List.length_cons, List.length_nil, List.length_set, List.length_take, List.length_drop, List.length_replicate]; omega) | fail) only [cond_t, cond_f, dt, df, w64, wu64, w8, ble_t, ble_f, ieqt, ieqf, inet, inef, Bool.not_true, Bool.not_false, Bool.true_and, Bool.and_true, Bool.false_and, Bool.and_false, Bool.not_not, dTrue, dFalse, Int.toNat_natCast, List.length_append, List.length_cons, List.length_nil, meet_self]
  exact intsL ns _ _ hn ROUNDS 0 (by omega) (by unfold ROUNDS; omega)
theorem holds (d : Dt) (l : List Sy) (n : Int) (h0 : okD (.st [(.int .i64), (.sl 2 (.int .i64)), (.sl 51 (.st [(.int .i64), (.int .i64), .bool]))]) d) (h1 : okD (.sl 53 (.st [.str, .bool, (.int .i64), (.int .i64), (.int .i64)])) l) (h2 : okD (.int .i64) n) : law15_DataChecks d l n (fun y => some y) = some true := by
  obtain ⟨kd, ws, rs, ⟨⟩⟩ := d
  have hk := ok64 (okDs_cons.1 (okD_st.1 h0)).1
  unfold law15_DataChecks law15_DataChecks.body law15_known
  rw [few_]
  by_cases c1 : ws.length ≤ 100 ∧ rs.length ≤ 100
  · rw [dt c1]
    by_cases c2 : (l.length : Int) > 60
    · simp (disch := first | omega | (simp only [List.length_append, List.length_cons, List.length_nil, List.length_set, List.length_take, List.length_drop, List.length_replicate]; omega) | fail) only [cond_t, cond_f, dt, df, w64, wu64, w8, ble_t, ble_f, ieqt, ieqf, inet, inef, Bool.not_true, Bool.not_false, Bool.true_and, Bool.and_true, Bool.false_and, Bool.and_false, Bool.not_not, dTrue, dFalse, Int.toNat_natCast, List.length_append, List.length_cons, List.length_nil, meet_self]
    · simp (disch := first | omega | (simp only [List.length_append, List.length_cons, List.length_nil, List.length_set, List.length_take, List.length_drop, List.length_replicate]; omega) | fail) only [cond_t, cond_f, dt, df, w64, wu64, w8, ble_t, ble_f, ieqt, ieqf, inet, inef, Bool.not_true, Bool.not_false, Bool.true_and, Bool.and_true, Bool.false_and, Bool.and_false, Bool.not_not, dTrue, dFalse, Int.toNat_natCast, List.length_append, List.length_cons, List.length_nil, meet_self]
      rw [dcheck_ kd ws rs l (by omega) (by omega), rdcheck_ kd ws rs l hk (by omega) (by omega)]
      simp (disch := first | omega | (simp only [List.length_append, List.length_cons, List.length_nil, List.length_set, List.length_take, List.length_drop, List.length_replicate]; omega) | fail) only [cond_t, cond_f, dt, df, w64, wu64, w8, ble_t, ble_f, ieqt, ieqf, inet, inef, Bool.not_true, Bool.not_false, Bool.true_and, Bool.and_true, Bool.false_and, Bool.and_false, Bool.not_not, dTrue, dFalse, Int.toNat_natCast, List.length_append, List.length_cons, List.length_nil, meet_self]
      obtain ⟨r, h3, h4, h5⟩ := refs_ kd ws rs (by omega) (by omega)
      rw [h4, h5, ints_ r h3]
      simp (disch := first | omega | (simp only [List.length_append, List.length_cons, List.length_nil, List.length_set, List.length_take, List.length_drop, List.length_replicate]; omega) | fail) only [cond_t, cond_f, dt, df, w64, wu64, w8, ble_t, ble_f, ieqt, ieqf, inet, inef, Bool.not_true, Bool.not_false, Bool.true_and, Bool.and_true, Bool.false_and, Bool.and_false, Bool.not_not, dTrue, dFalse, Int.toNat_natCast, List.length_append, List.length_cons, List.length_nil, meet_self]
      have hp : place n ≤ 4096 := by unfold place; omega
      rw [marks_ rs (by omega), rmarks_ rs (by omega), ints_ _ (by rw [marksS_len]; omega)]
      simp (disch := first | omega | (simp only [List.length_append, List.length_cons, List.length_nil, List.length_set, List.length_take, List.length_drop, List.length_replicate]; omega) | fail) only [cond_t, cond_f, dt, df, w64, wu64, w8, ble_t, ble_f, ieqt, ieqf, inet, inef, Bool.not_true, Bool.not_false, Bool.true_and, Bool.and_true, Bool.false_and, Bool.and_false, Bool.not_not, dTrue, dFalse, Int.toNat_natCast, List.length_append, List.length_cons, List.length_nil, meet_self]
  · rw [df c1]
    simp (disch := first | omega | (simp only [List.length_append, List.length_cons, List.length_nil, List.length_set, List.length_take, List.length_drop, List.length_replicate]; omega) | fail) only [cond_t, cond_f, dt, df, w64, wu64, w8, ble_t, ble_f, ieqt, ieqf, inet, inef, Bool.not_true, Bool.not_false, Bool.true_and, Bool.and_true, Bool.false_and, Bool.and_false, Bool.not_not, dTrue, dFalse, Int.toNat_natCast, List.length_append, List.length_cons, List.length_nil, meet_self]

end Go.Proofs.Ytbedajhajmkapaa.dataChecks
