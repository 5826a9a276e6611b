/- What the plain functions answer: the law, without program or memory. -/
import Derived.Test.YtbbpdfogfcffbaaMGB
import Derived.IntWalk
namespace Go.Proofs.Ytbbpdfogfcffbaa.framesTell
open Go.AX Go.Proofs.Ytbbpdfogfcffbaa.gB
set_option linter.unusedVariables false
set_option linter.unusedSimpArgs false
theorem cond_ite (b : Bool) (x y : Option Bool) : cond_ b x y = if b = true then x else y := by cases b <;> rfl
@[simp] theorem cond_t (x y : Option Bool) : cond_ true x y = x := rfl
@[simp] theorem cond_f (x y : Option Bool) : cond_ false x y = y := rfl
theorem cond_pos {b : Bool} {x y : Option Bool} (h : b = true) : cond_ b x y = x := by rw [h]; rfl
theorem cond_neg {b : Bool} {x y : Option Bool} (h : b = false) : cond_ b x y = y := by rw [h]; rfl
@[simp] theorem meet_self (x : Option Bool) : meet x x = x := by
  cases x with
  | none => rfl
  | some a => simp [meet]
theorem w64 {n : Int} (h1 : -9223372036854775808 ≤ n) (h2 : n ≤ 9223372036854775807) : IntKind.wrap .i64 n = n := IntWalk.i64_in n ⟨h1, h2⟩
theorem w8 {n : Int} (h1 : 0 ≤ n) (h2 : n ≤ 255) : IntKind.wrap .u8 n = n := IntWalk.u8_in n ⟨h1, h2⟩
theorem wu64 {n : Int} (h1 : 0 ≤ n) (h2 : n ≤ 18446744073709551615) : IntKind.wrap .u64 n = n := IntWalk.u64_in n ⟨h1, h2⟩
theorem ble_t {a b : Nat} (h : a ≤ b) : Nat.ble a b = true := by rw [Nat.ble_eq]; exact h
theorem ok64 {n : Int} (h : okD (.int .i64) n) : -9223372036854775808 ≤ n ∧ n ≤ 9223372036854775807 := by
  have := okD_int.1 h
  simpa [Lit.wf, IntKind.min, IntKind.max, IntKind.bits, IntKind.signed, i_] using this
theorem not_t {p : Prop} [Decidable p] (h : ¬p) : (!decide p) = true := by simp [h]
theorem not_f {p : Prop} [Decidable p] (h : p) : (!decide p) = false := by simp [h]
theorem cond_congr {b c : Bool} (h : b = c) (x y : Option Bool) : cond_ b x y = cond_ c x y := by rw [h]
attribute [local congr] cond_congr
theorem dt {p : Prop} [Decidable p] (h : p) : decide p = true := decide_eq_true h
theorem df {p : Prop} [Decidable p] (h : ¬p) : decide p = false := decide_eq_false h
theorem ieqt {a b : Int} (h : a = b) : (a == b) = true := by simp [h]
theorem ieqf {a b : Int} (h : a ≠ b) : (a == b) = false := by simp [h]
theorem inet {a b : Int} (h : a ≠ b) : (a != b) = true := by simp [h]
theorem inef {a b : Int} (h : a = b) : (a != b) = false := by simp [h]
theorem ble_f {a b : Nat} (h : b < a) : Nat.ble a b = false := by
  cases hb : Nat.ble a b with
  | false => rfl
  | true => rw [Nat.ble_eq] at hb; omega
theorem rounds_ : ∃ R, ROUNDS = R ∧ 1000000000 ≤ R := ⟨ROUNDS, rfl, by unfold ROUNDS; omega⟩
abbrev Pd := Int × Int × Unit
abbrev Fr := Int × Int × List Int × List Pd × Int × Int × Bool × Bool × Unit
theorem clone_ {ns : List Int} (h : ns.length ≤ 1000) (k : List Int → Option Bool) : slices_Clone_int64_int64 ns k = k ns := by
  unfold slices_Clone_int64_int64 slices_Clone_int64_int64.body
  simp (disch := first | omega | (simp only [List.length_append, List.length_cons, List.length_nil, List.length_set, List.length_take, List.length_drop, List.length_replicate]; omega) | fail) only [cond_t, cond_f, dt, df, w64, wu64, w8, ble_t, ble_f, ieqt, ieqf, inet, inef, Bool.not_true, Bool.not_false, Bool.true_and, Bool.and_true, Bool.false_and, Bool.and_false, Bool.not_not, Int.toNat_natCast, List.length_append, List.length_cons, List.length_nil, meet_self, List.nil_append]
  cases ns with
  | nil => simp
  | cons a r => rfl
theorem clonep_ {ns : List Pd} (h : ns.length ≤ 1000) (k : List Pd → Option Bool) : slices_Clone_api_Pend_api_Pend ns k = k ns := by
  unfold slices_Clone_api_Pend_api_Pend slices_Clone_api_Pend_api_Pend.body
  simp (disch := first | omega | (simp only [List.length_append, List.length_cons, List.length_nil, List.length_set, List.length_take, List.length_drop, List.length_replicate]; omega) | fail) only [cond_t, cond_f, dt, df, w64, wu64, w8, ble_t, ble_f, ieqt, ieqf, inet, inef, Bool.not_true, Bool.not_false, Bool.true_and, Bool.and_true, Bool.false_and, Bool.and_false, Bool.not_not, Int.toNat_natCast, List.length_append, List.length_cons, List.length_nil, meet_self, List.nil_append]
  cases ns with
  | nil => simp
  | cons a r => rfl
variable {a b c d : Int} {e f : Bool} {ns : List Int} {ts : List Pd}
theorem own_ (hn : ns.length ≤ 100) (ht : ts.length ≤ 100) (k : Int → Int → Int → Int → Bool → Bool → List Int → List Pd → Option Bool) :
    frames_own (a, b, ns, ts, c, d, e, f, ()) k = k a b c d e f ns ts := by
  unfold frames_own frames_own.body
  simp (disch := first | omega | (simp only [List.length_append, List.length_cons, List.length_nil, List.length_set, List.length_take, List.length_drop, List.length_replicate]; omega) | fail) only [cond_t, cond_f, dt, df, w64, wu64, w8, ble_t, ble_f, ieqt, ieqf, inet, inef, Bool.not_true, Bool.not_false, Bool.true_and, Bool.and_true, Bool.false_and, Bool.and_false, Bool.not_not, Int.toNat_natCast, List.length_append, List.length_cons, List.length_nil, meet_self, ↓clone_, ↓clonep_]
theorem defer_ (hn : ns.length ≤ 100) (ht : ts.length ≤ 100) (t : Pd) (k : Int → Int → Int → Int → Bool → Bool → List Int → List Pd → Option Bool) :
    frames_Defer (a, b, ns, ts, c, d, e, f, ()) t k = k a b c d e f ns (ts ++ [t]) := by
  unfold frames_Defer frames_Defer.body
  simp (disch := first | omega | (simp only [List.length_append, List.length_cons, List.length_nil, List.length_set, List.length_take, List.length_drop, List.length_replicate]; omega) | fail) only [cond_t, cond_f, dt, df, w64, wu64, w8, ble_t, ble_f, ieqt, ieqf, inet, inef, Bool.not_true, Bool.not_false, Bool.true_and, Bool.and_true, Bool.false_and, Bool.and_false, Bool.not_not, Int.toNat_natCast, List.length_append, List.length_cons, List.length_nil, meet_self, ↓own_]
theorem rdefer_ (hn : ns.length ≤ 100) (ht : ts.length ≤ 100) (t : Pd) (k : Int → Int → List Int → Int → Int → Bool → Bool → List Pd → Option Bool) :
    ref36_Defer (a, b, ns, ts, c, d, e, f, ()) t k = k a b ns c d e f (ts ++ [t]) := by
  unfold ref36_Defer ref36_Defer.body
  simp (disch := first | omega | (simp only [List.length_append, List.length_cons, List.length_nil, List.length_set, List.length_take, List.length_drop, List.length_replicate]; omega) | fail) only [cond_t, cond_f, dt, df, w64, wu64, w8, ble_t, ble_f, ieqt, ieqf, inet, inef, Bool.not_true, Bool.not_false, Bool.true_and, Bool.and_true, Bool.false_and, Bool.and_false, Bool.not_not, Int.toNat_natCast, List.length_append, List.length_cons, List.length_nil, meet_self]
def getS (ns : List Int) (n : Int) : Int := if 0 ≤ n ∧ n < (ns.length : Int) then ns.getD n.toNat 0 else 0
theorem frames_Get_ (n : Int) (k : Int → Option Bool) : frames_Get (a, b, ns, ts, c, d, e, f, ()) n k = k (getS ns n) := by
  unfold frames_Get frames_Get.body getS
  by_cases h1 : n < 0
  · rw [if_neg (by omega)]
    simp (disch := first | omega | (simp only [List.length_append, List.length_cons, List.length_nil, List.length_set, List.length_take, List.length_drop, List.length_replicate]; omega) | fail) only [cond_t, cond_f, dt, df, w64, wu64, w8, ble_t, ble_f, ieqt, ieqf, inet, inef, Bool.not_true, Bool.not_false, Bool.true_and, Bool.and_true, Bool.false_and, Bool.and_false, Bool.not_not, Int.toNat_natCast, List.length_append, List.length_cons, List.length_nil, meet_self]
  · by_cases h2 : n ≥ (ns.length : Int)
    · rw [if_neg (by omega)]
      simp (disch := first | omega | (simp only [List.length_append, List.length_cons, List.length_nil, List.length_set, List.length_take, List.length_drop, List.length_replicate]; omega) | fail) only [cond_t, cond_f, dt, df, w64, wu64, w8, ble_t, ble_f, ieqt, ieqf, inet, inef, Bool.not_true, Bool.not_false, Bool.true_and, Bool.and_true, Bool.false_and, Bool.and_false, Bool.not_not, Int.toNat_natCast, List.length_append, List.length_cons, List.length_nil, meet_self]
    · rw [if_pos (by omega)]
      simp (disch := first | omega | (simp only [List.length_append, List.length_cons, List.length_nil, List.length_set, List.length_take, List.length_drop, List.length_replicate]; omega) | fail) only [cond_t, cond_f, dt, df, w64, wu64, w8, ble_t, ble_f, ieqt, ieqf, inet, inef, Bool.not_true, Bool.not_false, Bool.true_and, Bool.and_true, Bool.false_and, Bool.and_false, Bool.not_not, Int.toNat_natCast, List.length_append, List.length_cons, List.length_nil, meet_self]
theorem ref36_Get_ (n : Int) (k : Int → Option Bool) : ref36_Get (a, b, ns, ts, c, d, e, f, ()) n k = k (getS ns n) := by
  unfold ref36_Get ref36_Get.body getS
  by_cases h1 : n < 0
  · rw [if_neg (by omega)]
    simp (disch := first | omega | (simp only [List.length_append, List.length_cons, List.length_nil, List.length_set, List.length_take, List.length_drop, List.length_replicate]; omega) | fail) only [cond_t, cond_f, dt, df, w64, wu64, w8, ble_t, ble_f, ieqt, ieqf, inet, inef, Bool.not_true, Bool.not_false, Bool.true_and, Bool.and_true, Bool.false_and, Bool.and_false, Bool.not_not, Int.toNat_natCast, List.length_append, List.length_cons, List.length_nil, meet_self]
  · by_cases h2 : n ≥ (ns.length : Int)
    · rw [if_neg (by omega)]
      simp (disch := first | omega | (simp only [List.length_append, List.length_cons, List.length_nil, List.length_set, List.length_take, List.length_drop, List.length_replicate]; omega) | fail) only [cond_t, cond_f, dt, df, w64, wu64, w8, ble_t, ble_f, ieqt, ieqf, inet, inef, Bool.not_true, Bool.not_false, Bool.true_and, Bool.and_true, Bool.false_and, Bool.and_false, Bool.not_not, Int.toNat_natCast, List.length_append, List.length_cons, List.length_nil, meet_self]
    · rw [if_pos (by omega)]
      simp (disch := first | omega | (simp only [List.length_append, List.length_cons, List.length_nil, List.length_set, List.length_take, List.length_drop, List.length_replicate]; omega) | fail) only [cond_t, cond_f, dt, df, w64, wu64, w8, ble_t, ble_f, ieqt, ieqf, inet, inef, Bool.not_true, Bool.not_false, Bool.true_and, Bool.and_true, Bool.false_and, Bool.and_false, Bool.not_not, Int.toNat_natCast, List.length_append, List.length_cons, List.length_nil, meet_self]
def setS (ns : List Int) (n x : Int) : List Int := if 0 ≤ n ∧ n < (ns.length : Int) then ns.set n.toNat x else ns
theorem setS_len (n x : Int) : (setS ns n x).length = ns.length := by
  unfold setS
  split
  · rw [List.length_set]
  · rfl
theorem fset_ (hn : ns.length ≤ 100) (ht : ts.length ≤ 100) (n x : Int) (k : Int → Int → Int → Int → Bool → Bool → List Int → List Pd → Option Bool) : frames_Set (a, b, ns, ts, c, d, e, f, ()) n x k = k a b c d e f (setS ns n x) ts := by
  unfold frames_Set frames_Set.body setS
  simp (disch := first | omega | (simp only [List.length_append, List.length_cons, List.length_nil, List.length_set, List.length_take, List.length_drop, List.length_replicate]; omega) | fail) only [cond_t, cond_f, dt, df, w64, wu64, w8, ble_t, ble_f, ieqt, ieqf, inet, inef, Bool.not_true, Bool.not_false, Bool.true_and, Bool.and_true, Bool.false_and, Bool.and_false, Bool.not_not, Int.toNat_natCast, List.length_append, List.length_cons, List.length_nil, meet_self, ↓own_]
  by_cases h1 : n < 0
  · rw [if_neg (by omega)]
    simp (disch := first | omega | (simp only [List.length_append, List.length_cons, List.length_nil, List.length_set, List.length_take, List.length_drop, List.length_replicate]; omega) | fail) only [cond_t, cond_f, dt, df, w64, wu64, w8, ble_t, ble_f, ieqt, ieqf, inet, inef, Bool.not_true, Bool.not_false, Bool.true_and, Bool.and_true, Bool.false_and, Bool.and_false, Bool.not_not, Int.toNat_natCast, List.length_append, List.length_cons, List.length_nil, meet_self]
  · by_cases h2 : n ≥ (ns.length : Int)
    · rw [if_neg (by omega)]
      simp (disch := first | omega | (simp only [List.length_append, List.length_cons, List.length_nil, List.length_set, List.length_take, List.length_drop, List.length_replicate]; omega) | fail) only [cond_t, cond_f, dt, df, w64, wu64, w8, ble_t, ble_f, ieqt, ieqf, inet, inef, Bool.not_true, Bool.not_false, Bool.true_and, Bool.and_true, Bool.false_and, Bool.and_false, Bool.not_not, Int.toNat_natCast, List.length_append, List.length_cons, List.length_nil, meet_self]
    · rw [if_pos (by omega)]
      simp (disch := first | omega | (simp only [List.length_append, List.length_cons, List.length_nil, List.length_set, List.length_take, List.length_drop, List.length_replicate]; omega) | fail) only [cond_t, cond_f, dt, df, w64, wu64, w8, ble_t, ble_f, ieqt, ieqf, inet, inef, Bool.not_true, Bool.not_false, Bool.true_and, Bool.and_true, Bool.false_and, Bool.and_false, Bool.not_not, Int.toNat_natCast, List.length_append, List.length_cons, List.length_nil, meet_self]
theorem rset_ (hn : ns.length ≤ 100) (n x : Int) (k : Int → Int → List Int → List Pd → Int → Int → Bool → Bool → Option Bool) : ref36_Set a b ns ts c d e f n x k = k a b (setS ns n x) ts c d e f := by
  unfold ref36_Set ref36_Set.body setS
  by_cases h1 : n < 0
  · rw [if_neg (by omega)]
    simp (disch := first | omega | (simp only [List.length_append, List.length_cons, List.length_nil, List.length_set, List.length_take, List.length_drop, List.length_replicate]; omega) | fail) only [cond_t, cond_f, dt, df, w64, wu64, w8, ble_t, ble_f, ieqt, ieqf, inet, inef, Bool.not_true, Bool.not_false, Bool.true_and, Bool.and_true, Bool.false_and, Bool.and_false, Bool.not_not, Int.toNat_natCast, List.length_append, List.length_cons, List.length_nil, meet_self]
  · by_cases h2 : n ≥ (ns.length : Int)
    · rw [if_neg (by omega)]
      simp (disch := first | omega | (simp only [List.length_append, List.length_cons, List.length_nil, List.length_set, List.length_take, List.length_drop, List.length_replicate]; omega) | fail) only [cond_t, cond_f, dt, df, w64, wu64, w8, ble_t, ble_f, ieqt, ieqf, inet, inef, Bool.not_true, Bool.not_false, Bool.true_and, Bool.and_true, Bool.false_and, Bool.and_false, Bool.not_not, Int.toNat_natCast, List.length_append, List.length_cons, List.length_nil, meet_self]
    · rw [if_pos (by omega)]
      simp (disch := first | omega | (simp only [List.length_append, List.length_cons, List.length_nil, List.length_set, List.length_take, List.length_drop, List.length_replicate]; omega) | fail) only [cond_t, cond_f, dt, df, w64, wu64, w8, ble_t, ble_f, ieqt, ieqf, inet, inef, Bool.not_true, Bool.not_false, Bool.true_and, Bool.and_true, Bool.false_and, Bool.and_false, Bool.not_not, Int.toNat_natCast, List.length_append, List.length_cons, List.length_nil, meet_self]
theorem rset1_ (hn : ns.length ≤ 100) (n x : Int) (k : Fr → Option Bool) : ref36_Setv1 (a, b, ns, ts, c, d, e, f, ()) n x k = k (a, b, setS ns n x, ts, c, d, e, f, ()) := by
  unfold ref36_Setv1 ref36_Setv1.body setS
  by_cases h1 : n < 0
  · rw [if_neg (by omega)]
    simp (disch := first | omega | (simp only [List.length_append, List.length_cons, List.length_nil, List.length_set, List.length_take, List.length_drop, List.length_replicate]; omega) | fail) only [cond_t, cond_f, dt, df, w64, wu64, w8, ble_t, ble_f, ieqt, ieqf, inet, inef, Bool.not_true, Bool.not_false, Bool.true_and, Bool.and_true, Bool.false_and, Bool.and_false, Bool.not_not, Int.toNat_natCast, List.length_append, List.length_cons, List.length_nil, meet_self]
  · by_cases h2 : n ≥ (ns.length : Int)
    · rw [if_neg (by omega)]
      simp (disch := first | omega | (simp only [List.length_append, List.length_cons, List.length_nil, List.length_set, List.length_take, List.length_drop, List.length_replicate]; omega) | fail) only [cond_t, cond_f, dt, df, w64, wu64, w8, ble_t, ble_f, ieqt, ieqf, inet, inef, Bool.not_true, Bool.not_false, Bool.true_and, Bool.and_true, Bool.false_and, Bool.and_false, Bool.not_not, Int.toNat_natCast, List.length_append, List.length_cons, List.length_nil, meet_self]
    · rw [if_pos (by omega)]
      simp (disch := first | omega | (simp only [List.length_append, List.length_cons, List.length_nil, List.length_set, List.length_take, List.length_drop, List.length_replicate]; omega) | fail) only [cond_t, cond_f, dt, df, w64, wu64, w8, ble_t, ble_f, ieqt, ieqf, inet, inef, Bool.not_true, Bool.not_false, Bool.true_and, Bool.and_true, Bool.false_and, Bool.and_false, Bool.not_not, Int.toNat_natCast, List.length_append, List.length_cons, List.length_nil, meet_self]
def nextS (a b : Int) (ns : List Int) (ts : List Pd) (c d : Int) (e f : Bool) : Pd × Fr × Bool := if ts.length = 0 then ((0, 0, ()), (a, b, ns, ts, c, d, e, f, ()), false) else (ts.getD (ts.length - 1) (0, 0, ()), (a, b, ns, ts.take (ts.length - 1), c, d, e, f, ()), true)
theorem next_ (hn : ns.length ≤ 100) (ht : ts.length ≤ 100) (k : Pd → Fr → Bool → Option Bool) :
    frames_Next (a, b, ns, ts, c, d, e, f, ()) k = k (nextS a b ns ts c d e f).1 (nextS a b ns ts c d e f).2.1 (nextS a b ns ts c d e f).2.2 := by
  unfold frames_Next frames_Next.body nextS
  simp (disch := first | omega | (simp only [List.length_append, List.length_cons, List.length_nil, List.length_set, List.length_take, List.length_drop, List.length_replicate]; omega) | fail) only [cond_t, cond_f, dt, df, w64, wu64, w8, ble_t, ble_f, ieqt, ieqf, inet, inef, Bool.not_true, Bool.not_false, Bool.true_and, Bool.and_true, Bool.false_and, Bool.and_false, Bool.not_not, Int.toNat_natCast, List.length_append, List.length_cons, List.length_nil, meet_self, ↓own_]
  by_cases h : ts.length = 0
  · rw [if_pos h]
    simp (disch := first | omega | (simp only [List.length_append, List.length_cons, List.length_nil, List.length_set, List.length_take, List.length_drop, List.length_replicate]; omega) | fail) only [cond_t, cond_f, dt, df, w64, wu64, w8, ble_t, ble_f, ieqt, ieqf, inet, inef, Bool.not_true, Bool.not_false, Bool.true_and, Bool.and_true, Bool.false_and, Bool.and_false, Bool.not_not, Int.toNat_natCast, List.length_append, List.length_cons, List.length_nil, meet_self]
  · rw [if_neg h]
    have e1 : ((ts.length : Int) - 1).toNat = ts.length - 1 := by omega
    simp (disch := first | omega | (simp only [List.length_append, List.length_cons, List.length_nil, List.length_set, List.length_take, List.length_drop, List.length_replicate]; omega) | fail) only [cond_t, cond_f, dt, df, w64, wu64, w8, ble_t, ble_f, ieqt, ieqf, inet, inef, Bool.not_true, Bool.not_false, Bool.true_and, Bool.and_true, Bool.false_and, Bool.and_false, Bool.not_not, Int.toNat_natCast, List.length_append, List.length_cons, List.length_nil, meet_self, Int.sub_zero, e1, List.drop_zero]
theorem rnext_ (hn : ns.length ≤ 100) (ht : ts.length ≤ 100) (k : Pd → Fr → Bool → Option Bool) :
    ref36_Next (a, b, ns, ts, c, d, e, f, ()) k = k (nextS a b ns ts c d e f).1 (nextS a b ns ts c d e f).2.1 (nextS a b ns ts c d e f).2.2 := by
  unfold ref36_Next ref36_Next.body nextS
  by_cases h : ts.length = 0
  · rw [if_pos h]
    simp (disch := first | omega | (simp only [List.length_append, List.length_cons, List.length_nil, List.length_set, List.length_take, List.length_drop, List.length_replicate]; omega) | fail) only [cond_t, cond_f, dt, df, w64, wu64, w8, ble_t, ble_f, ieqt, ieqf, inet, inef, Bool.not_true, Bool.not_false, Bool.true_and, Bool.and_true, Bool.false_and, Bool.and_false, Bool.not_not, Int.toNat_natCast, List.length_append, List.length_cons, List.length_nil, meet_self]
  · rw [if_neg h]
    have e1 : ((ts.length : Int) - 1).toNat = ts.length - 1 := by omega
    simp (disch := first | omega | (simp only [List.length_append, List.length_cons, List.length_nil, List.length_set, List.length_take, List.length_drop, List.length_replicate]; omega) | fail) only [cond_t, cond_f, dt, df, w64, wu64, w8, ble_t, ble_f, ieqt, ieqf, inet, inef, Bool.not_true, Bool.not_false, Bool.true_and, Bool.and_true, Bool.false_and, Bool.and_false, Bool.not_not, Int.toNat_natCast, List.length_append, List.length_cons, List.length_nil, meet_self, Int.sub_zero, e1, List.drop_zero]
theorem ref01_Longs_L0_ (ns : List Int) (k1 : Bool → Option Bool) (k2 : Option Bool) (hn : ns.length ≤ 100) : ∀ (n i : Nat), i ≤ ns.length → ns.length - i < n → ref01_Longs_L0 n ns ns (i : Int) k1 k2 = k2
  | 0, i, _, h => by omega
  | n + 1, i, h1, h2 => by
    rw [ref01_Longs_L0]
    unfold ref01_Longs_L0.body
    by_cases h : i < ns.length
    · simp (disch := first | omega | (simp only [List.length_append, List.length_cons, List.length_nil, List.length_set, List.length_take, List.length_drop, List.length_replicate]; omega) | fail) only [cond_t, cond_f, dt, df, w64, wu64, w8, ble_t, ble_f, ieqt, ieqf, inet, inef, Bool.not_true, Bool.not_false, Bool.true_and, Bool.and_true, Bool.false_and, Bool.and_false, Bool.not_not, Int.toNat_natCast, List.length_append, List.length_cons, List.length_nil, meet_self]
      exact ref01_Longs_L0_ ns k1 k2 hn n (i + 1) (by omega) (by omega)
    · simp (disch := first | omega | (simp only [List.length_append, List.length_cons, List.length_nil, List.length_set, List.length_take, List.length_drop, List.length_replicate]; omega) | fail) only [cond_t, cond_f, dt, df, w64, wu64, w8, ble_t, ble_f, ieqt, ieqf, inet, inef, Bool.not_true, Bool.not_false, Bool.true_and, Bool.and_true, Bool.false_and, Bool.and_false, Bool.not_not, Int.toNat_natCast, List.length_append, List.length_cons, List.length_nil, meet_self]
theorem ref01_Longs_ (ns : List Int) (hn : ns.length ≤ 100) (k : Bool → Option Bool) : ref01_Longs ns ns k = k true := by
  unfold ref01_Longs ref01_Longs.body
  simp (disch := first | omega | (simp only [List.length_append, List.length_cons, List.length_nil, List.length_set, List.length_take, List.length_drop, List.length_replicate]; omega) | fail) only [cond_t, cond_f, dt, df, w64, wu64, w8, ble_t, ble_f, ieqt, ieqf, inet, inef, Bool.not_true, Bool.not_false, Bool.true_and, Bool.and_true, Bool.false_and, Bool.and_false, Bool.not_not, Int.toNat_natCast, List.length_append, List.length_cons, List.length_nil, meet_self]
  exact ref01_Longs_L0_ ns _ _ hn ROUNDS 0 (by omega) (by unfold ROUNDS; omega)
theorem ref01_Longsv1_L0_ (ns : List Int) (k1 : Bool → Option Bool) (k2 : Option Bool) (hn : ns.length ≤ 100) : ∀ (n i : Nat), i ≤ ns.length → ns.length - i < n → ref01_Longsv1_L0 n ns ns (i : Int) k1 k2 = k2
  | 0, i, _, h => by omega
  | n + 1, i, h1, h2 => by
    rw [ref01_Longsv1_L0]
    unfold ref01_Longsv1_L0.body
    by_cases h : i < ns.length
    · simp (disch := first | omega | (simp only [List.length_append, List.length_cons, List.length_nil, List.length_set, List.length_take, List.length_drop, List.length_replicate]; omega) | fail) only [cond_t, cond_f, dt, df, w64, wu64, w8, ble_t, ble_f, ieqt, ieqf, inet, inef, Bool.not_true, Bool.not_false, Bool.true_and, Bool.and_true, Bool.false_and, Bool.and_false, Bool.not_not, Int.toNat_natCast, List.length_append, List.length_cons, List.length_nil, meet_self]
      exact ref01_Longsv1_L0_ ns k1 k2 hn n (i + 1) (by omega) (by omega)
    · simp (disch := first | omega | (simp only [List.length_append, List.length_cons, List.length_nil, List.length_set, List.length_take, List.length_drop, List.length_replicate]; omega) | fail) only [cond_t, cond_f, dt, df, w64, wu64, w8, ble_t, ble_f, ieqt, ieqf, inet, inef, Bool.not_true, Bool.not_false, Bool.true_and, Bool.and_true, Bool.false_and, Bool.and_false, Bool.not_not, Int.toNat_natCast, List.length_append, List.length_cons, List.length_nil, meet_self]
theorem ref01_Longsv1_ (ns : List Int) (hn : ns.length ≤ 100) (k : Bool → Option Bool) : ref01_Longsv1 ns ns k = k true := by
  unfold ref01_Longsv1 ref01_Longsv1.body
  simp (disch := first | omega | (simp only [List.length_append, List.length_cons, List.length_nil, List.length_set, List.length_take, List.length_drop, List.length_replicate]; omega) | fail) only [cond_t, cond_f, dt, df, w64, wu64, w8, ble_t, ble_f, ieqt, ieqf, inet, inef, Bool.not_true, Bool.not_false, Bool.true_and, Bool.and_true, Bool.false_and, Bool.and_false, Bool.not_not, Int.toNat_natCast, List.length_append, List.length_cons, List.length_nil, meet_self]
  exact ref01_Longsv1_L0_ ns _ _ hn ROUNDS 0 (by omega) (by unfold ROUNDS; omega)
theorem ref01_Longsv2_L0_ (ns : List Int) (k1 : Bool → Option Bool) (k2 : Option Bool) (hn : ns.length ≤ 100) : ∀ (n i : Nat), i ≤ ns.length → ns.length - i < n → ref01_Longsv2_L0 n ns ns (i : Int) k1 k2 = k2
  | 0, i, _, h => by omega
  | n + 1, i, h1, h2 => by
    rw [ref01_Longsv2_L0]
    unfold ref01_Longsv2_L0.body
    by_cases h : i < ns.length
    · simp (disch := first | omega | (simp only [List.length_append, List.length_cons, List.length_nil, List.length_set, List.length_take, List.length_drop, List.length_replicate]; omega) | fail) only [cond_t, cond_f, dt, df, w64, wu64, w8, ble_t, ble_f, ieqt, ieqf, inet, inef, Bool.not_true, Bool.not_false, Bool.true_and, Bool.and_true, Bool.false_and, Bool.and_false, Bool.not_not, Int.toNat_natCast, List.length_append, List.length_cons, List.length_nil, meet_self]
      exact ref01_Longsv2_L0_ ns k1 k2 hn n (i + 1) (by omega) (by omega)
    · simp (disch := first | omega | (simp only [List.length_append, List.length_cons, List.length_nil, List.length_set, List.length_take, List.length_drop, List.length_replicate]; omega) | fail) only [cond_t, cond_f, dt, df, w64, wu64, w8, ble_t, ble_f, ieqt, ieqf, inet, inef, Bool.not_true, Bool.not_false, Bool.true_and, Bool.and_true, Bool.false_and, Bool.and_false, Bool.not_not, Int.toNat_natCast, List.length_append, List.length_cons, List.length_nil, meet_self]
theorem ref01_Longsv2_ (ns : List Int) (hn : ns.length ≤ 100) (k : Bool → Option Bool) : ref01_Longsv2 ns ns k = k true := by
  unfold ref01_Longsv2 ref01_Longsv2.body
  simp (disch := first | omega | (simp only [List.length_append, List.length_cons, List.length_nil, List.length_set, List.length_take, List.length_drop, List.length_replicate]; omega) | fail) only [cond_t, cond_f, dt, df, w64, wu64, w8, ble_t, ble_f, ieqt, ieqf, inet, inef, Bool.not_true, Bool.not_false, Bool.true_and, Bool.and_true, Bool.false_and, Bool.and_false, Bool.not_not, Int.toNat_natCast, List.length_append, List.length_cons, List.length_nil, meet_self]
  exact ref01_Longsv2_L0_ ns _ _ hn ROUNDS 0 (by omega) (by unfold ROUNDS; omega)
theorem ref36_Same_L0_ (k1 : Bool → Option Bool) (k2 : Option Bool) (hn : ts.length ≤ 100) : ∀ (n i : Nat), i ≤ ts.length → ts.length - i < n → ref36_Same_L0 n (i : Int) a b ns ts c d e f (a, b, ns, ts, c, d, e, f, ()) k1 k2 = k2
  | 0, i, _, h => by omega
  | n + 1, i, h1, h2 => by
    rw [ref36_Same_L0]
    unfold ref36_Same_L0.body
    by_cases h : i < ts.length
    · simp (disch := first | omega | (simp only [List.length_append, List.length_cons, List.length_nil, List.length_set, List.length_take, List.length_drop, List.length_replicate]; omega) | fail) only [cond_t, cond_f, dt, df, w64, wu64, w8, ble_t, ble_f, ieqt, ieqf, inet, inef, Bool.not_true, Bool.not_false, Bool.true_and, Bool.and_true, Bool.false_and, Bool.and_false, Bool.not_not, Int.toNat_natCast, List.length_append, List.length_cons, List.length_nil, meet_self]
      exact ref36_Same_L0_ k1 k2 hn n (i + 1) (by omega) (by omega)
    · simp (disch := first | omega | (simp only [List.length_append, List.length_cons, List.length_nil, List.length_set, List.length_take, List.length_drop, List.length_replicate]; omega) | fail) only [cond_t, cond_f, dt, df, w64, wu64, w8, ble_t, ble_f, ieqt, ieqf, inet, inef, Bool.not_true, Bool.not_false, Bool.true_and, Bool.and_true, Bool.false_and, Bool.and_false, Bool.not_not, Int.toNat_natCast, List.length_append, List.length_cons, List.length_nil, meet_self]
theorem ref36_Same_ (hn : ns.length ≤ 100) (ht : ts.length ≤ 100) (k : Bool → Option Bool) : ref36_Same a b ns ts c d e f (a, b, ns, ts, c, d, e, f, ()) k = k true := by
  unfold ref36_Same ref36_Same.body
  simp (disch := first | omega | (simp only [List.length_append, List.length_cons, List.length_nil, List.length_set, List.length_take, List.length_drop, List.length_replicate]; omega) | fail) only [cond_t, cond_f, dt, df, w64, wu64, w8, ble_t, ble_f, ieqt, ieqf, inet, inef, Bool.not_true, Bool.not_false, Bool.true_and, Bool.and_true, Bool.false_and, Bool.and_false, Bool.not_not, Int.toNat_natCast, List.length_append, List.length_cons, List.length_nil, meet_self, ↓ref01_Longs_, beq_self_eq_true]
  exact ref36_Same_L0_ _ _ ht ROUNDS 0 (by omega) (by unfold ROUNDS; omega)
theorem ref36_Samev3_L0_ (k1 : Bool → Option Bool) (k2 : Option Bool) (hn : ts.length ≤ 100) : ∀ (n i : Nat), i ≤ ts.length → ts.length - i < n → ref36_Samev3_L0 n (i : Int) a b ns ts c d e f (a, b, ns, ts, c, d, e, f, ()) k1 k2 = k2
  | 0, i, _, h => by omega
  | n + 1, i, h1, h2 => by
    rw [ref36_Samev3_L0]
    unfold ref36_Samev3_L0.body
    by_cases h : i < ts.length
    · simp (disch := first | omega | (simp only [List.length_append, List.length_cons, List.length_nil, List.length_set, List.length_take, List.length_drop, List.length_replicate]; omega) | fail) only [cond_t, cond_f, dt, df, w64, wu64, w8, ble_t, ble_f, ieqt, ieqf, inet, inef, Bool.not_true, Bool.not_false, Bool.true_and, Bool.and_true, Bool.false_and, Bool.and_false, Bool.not_not, Int.toNat_natCast, List.length_append, List.length_cons, List.length_nil, meet_self]
      exact ref36_Samev3_L0_ k1 k2 hn n (i + 1) (by omega) (by omega)
    · simp (disch := first | omega | (simp only [List.length_append, List.length_cons, List.length_nil, List.length_set, List.length_take, List.length_drop, List.length_replicate]; omega) | fail) only [cond_t, cond_f, dt, df, w64, wu64, w8, ble_t, ble_f, ieqt, ieqf, inet, inef, Bool.not_true, Bool.not_false, Bool.true_and, Bool.and_true, Bool.false_and, Bool.and_false, Bool.not_not, Int.toNat_natCast, List.length_append, List.length_cons, List.length_nil, meet_self]
theorem ref36_Samev3_ (hn : ns.length ≤ 100) (ht : ts.length ≤ 100) (k : Bool → Option Bool) : ref36_Samev3 a b ns ts c d e f (a, b, ns, ts, c, d, e, f, ()) k = k true := by
  unfold ref36_Samev3 ref36_Samev3.body
  simp (disch := first | omega | (simp only [List.length_append, List.length_cons, List.length_nil, List.length_set, List.length_take, List.length_drop, List.length_replicate]; omega) | fail) only [cond_t, cond_f, dt, df, w64, wu64, w8, ble_t, ble_f, ieqt, ieqf, inet, inef, Bool.not_true, Bool.not_false, Bool.true_and, Bool.and_true, Bool.false_and, Bool.and_false, Bool.not_not, Int.toNat_natCast, List.length_append, List.length_cons, List.length_nil, meet_self, ↓ref01_Longsv1_, beq_self_eq_true]
  exact ref36_Samev3_L0_ _ _ ht ROUNDS 0 (by omega) (by unfold ROUNDS; omega)
theorem sameL1 (k1 : Bool → Option Bool) (k2 : Option Bool) (hn : ts.length ≤ 100) : ∀ (n i : Nat), i ≤ ts.length → ts.length - i < n → ref36_Samev1_L0 n (i : Int) a b ns ts c d e f a b ns ts c d e f k1 k2 = k2
  | 0, i, _, h => by omega
  | n + 1, i, h1, h2 => by
    rw [ref36_Samev1_L0]
    unfold ref36_Samev1_L0.body
    by_cases h : i < ts.length
    · simp (disch := first | omega | (simp only [List.length_append, List.length_cons, List.length_nil, List.length_set, List.length_take, List.length_drop, List.length_replicate]; omega) | fail) only [cond_t, cond_f, dt, df, w64, wu64, w8, ble_t, ble_f, ieqt, ieqf, inet, inef, Bool.not_true, Bool.not_false, Bool.true_and, Bool.and_true, Bool.false_and, Bool.and_false, Bool.not_not, Int.toNat_natCast, List.length_append, List.length_cons, List.length_nil, meet_self]
      exact sameL1 k1 k2 hn n (i + 1) (by omega) (by omega)
    · simp (disch := first | omega | (simp only [List.length_append, List.length_cons, List.length_nil, List.length_set, List.length_take, List.length_drop, List.length_replicate]; omega) | fail) only [cond_t, cond_f, dt, df, w64, wu64, w8, ble_t, ble_f, ieqt, ieqf, inet, inef, Bool.not_true, Bool.not_false, Bool.true_and, Bool.and_true, Bool.false_and, Bool.and_false, Bool.not_not, Int.toNat_natCast, List.length_append, List.length_cons, List.length_nil, meet_self]
theorem same1_ (hn : ns.length ≤ 100) (ht : ts.length ≤ 100) (k : Bool → Option Bool) : ref36_Samev1 a b ns ts c d e f a b ns ts c d e f k = k true := by
  unfold ref36_Samev1 ref36_Samev1.body
  simp (disch := first | omega | (simp only [List.length_append, List.length_cons, List.length_nil, List.length_set, List.length_take, List.length_drop, List.length_replicate]; omega) | fail) only [cond_t, cond_f, dt, df, w64, wu64, w8, ble_t, ble_f, ieqt, ieqf, inet, inef, Bool.not_true, Bool.not_false, Bool.true_and, Bool.and_true, Bool.false_and, Bool.and_false, Bool.not_not, Int.toNat_natCast, List.length_append, List.length_cons, List.length_nil, meet_self, ↓ref01_Longs_, beq_self_eq_true]
  exact sameL1 _ _ ht ROUNDS 0 (by omega) (by unfold ROUNDS; omega)
theorem sameL2 (x : Fr) (k1 : Bool → Option Bool) (k2 : Option Bool) (hn : x.2.2.2.1.length ≤ 100) : ∀ (n i : Nat), i ≤ x.2.2.2.1.length → x.2.2.2.1.length - i < n → ref36_Samev2_L0 n (i : Int) x x k1 k2 = k2
  | 0, i, _, h => by omega
  | n + 1, i, h1, h2 => by
    rw [ref36_Samev2_L0]
    unfold ref36_Samev2_L0.body
    by_cases h : i < x.2.2.2.1.length
    · simp (disch := first | omega | (simp only [List.length_append, List.length_cons, List.length_nil, List.length_set, List.length_take, List.length_drop, List.length_replicate]; omega) | fail) only [cond_t, cond_f, dt, df, w64, wu64, w8, ble_t, ble_f, ieqt, ieqf, inet, inef, Bool.not_true, Bool.not_false, Bool.true_and, Bool.and_true, Bool.false_and, Bool.and_false, Bool.not_not, Int.toNat_natCast, List.length_append, List.length_cons, List.length_nil, meet_self]
      exact sameL2 x k1 k2 hn n (i + 1) (by omega) (by omega)
    · simp (disch := first | omega | (simp only [List.length_append, List.length_cons, List.length_nil, List.length_set, List.length_take, List.length_drop, List.length_replicate]; omega) | fail) only [cond_t, cond_f, dt, df, w64, wu64, w8, ble_t, ble_f, ieqt, ieqf, inet, inef, Bool.not_true, Bool.not_false, Bool.true_and, Bool.and_true, Bool.false_and, Bool.and_false, Bool.not_not, Int.toNat_natCast, List.length_append, List.length_cons, List.length_nil, meet_self]
theorem same2_ (x : Fr) (hn : x.2.2.1.length ≤ 100) (ht : x.2.2.2.1.length ≤ 100) (k : Bool → Option Bool) : ref36_Samev2 x x k = k true := by
  unfold ref36_Samev2 ref36_Samev2.body
  simp (disch := first | omega | (simp only [List.length_append, List.length_cons, List.length_nil, List.length_set, List.length_take, List.length_drop, List.length_replicate]; omega) | fail) only [cond_t, cond_f, dt, df, w64, wu64, w8, ble_t, ble_f, ieqt, ieqf, inet, inef, Bool.not_true, Bool.not_false, Bool.true_and, Bool.and_true, Bool.false_and, Bool.and_false, Bool.not_not, Int.toNat_natCast, List.length_append, List.length_cons, List.length_nil, meet_self, ↓ref01_Longsv1_, beq_self_eq_true]
  exact sameL2 x _ _ ht ROUNDS 0 (by omega) (by unfold ROUNDS; omega)
def parS (n : Int) : Int := if 0 ≤ n ∧ n ≤ 7 then n / 2 else 0
theorem params_ (n : Int) (k : Int → Option Bool) : sig_Params n k = k (parS n) := by
  unfold sig_Params sig_Params.body sig_Is sig_Is.body parS
  rw [Int.fdiv_eq_ediv_of_nonneg _ (by omega)]
  by_cases h : 0 ≤ n
  · by_cases h2 : n ≤ 7
    · rw [if_pos (by omega)]
      simp (disch := first | omega | (simp only [List.length_append, List.length_cons, List.length_nil, List.length_set, List.length_take, List.length_drop, List.length_replicate]; omega) | fail) only [cond_t, cond_f, dt, df, w64, wu64, w8, ble_t, ble_f, ieqt, ieqf, inet, inef, Bool.not_true, Bool.not_false, Bool.true_and, Bool.and_true, Bool.false_and, Bool.and_false, Bool.not_not, Int.toNat_natCast, List.length_append, List.length_cons, List.length_nil, meet_self]
    · rw [if_neg (by omega)]
      simp (disch := first | omega | (simp only [List.length_append, List.length_cons, List.length_nil, List.length_set, List.length_take, List.length_drop, List.length_replicate]; omega) | fail) only [cond_t, cond_f, dt, df, w64, wu64, w8, ble_t, ble_f, ieqt, ieqf, inet, inef, Bool.not_true, Bool.not_false, Bool.true_and, Bool.and_true, Bool.false_and, Bool.and_false, Bool.not_not, Int.toNat_natCast, List.length_append, List.length_cons, List.length_nil, meet_self]
  · rw [if_neg (by omega)]
    simp (disch := first | omega | (simp only [List.length_append, List.length_cons, List.length_nil, List.length_set, List.length_take, List.length_drop, List.length_replicate]; omega) | fail) only [cond_t, cond_f, dt, df, w64, wu64, w8, ble_t, ble_f, ieqt, ieqf, inet, inef, Bool.not_true, Bool.not_false, Bool.true_and, Bool.and_true, Bool.false_and, Bool.and_false, Bool.not_not, Int.toNat_natCast, List.length_append, List.length_cons, List.length_nil, meet_self]
theorem rparams_ (n : Int) (k : Int → Option Bool) : ref05_Params n k = k (parS n) := by
  unfold ref05_Params ref05_Params.body ref05_Is ref05_Is.body parS
  by_cases h : 0 ≤ n
  · rw [Int.tdiv_eq_ediv_of_nonneg h]
    by_cases h2 : n ≤ 7
    · rw [if_pos (by omega)]
      simp (disch := first | omega | (simp only [List.length_append, List.length_cons, List.length_nil, List.length_set, List.length_take, List.length_drop, List.length_replicate]; omega) | fail) only [cond_t, cond_f, dt, df, w64, wu64, w8, ble_t, ble_f, ieqt, ieqf, inet, inef, Bool.not_true, Bool.not_false, Bool.true_and, Bool.and_true, Bool.false_and, Bool.and_false, Bool.not_not, Int.toNat_natCast, List.length_append, List.length_cons, List.length_nil, meet_self]
    · rw [if_neg (by omega)]
      simp (disch := first | omega | (simp only [List.length_append, List.length_cons, List.length_nil, List.length_set, List.length_take, List.length_drop, List.length_replicate]; omega) | fail) only [cond_t, cond_f, dt, df, w64, wu64, w8, ble_t, ble_f, ieqt, ieqf, inet, inef, Bool.not_true, Bool.not_false, Bool.true_and, Bool.and_true, Bool.false_and, Bool.and_false, Bool.not_not, Int.toNat_natCast, List.length_append, List.length_cons, List.length_nil, meet_self]
  · rw [if_neg (by omega)]
    simp (disch := first | omega | (simp only [List.length_append, List.length_cons, List.length_nil, List.length_set, List.length_take, List.length_drop, List.length_replicate]; omega) | fail) only [cond_t, cond_f, dt, df, w64, wu64, w8, ble_t, ble_f, ieqt, ieqf, inet, inef, Bool.not_true, Bool.not_false, Bool.true_and, Bool.and_true, Bool.false_and, Bool.and_false, Bool.not_not, Int.toNat_natCast, List.length_append, List.length_cons, List.length_nil, meet_self]
def argsS (ns : List Int) (s : Int) : Nat → List Int
  | 0 => []
  | m + 1 => argsS ns s m ++ [getS ns (IntKind.wrap .i64 (s + (m : Int)))]
theorem argsS_len (ns : List Int) (s : Int) : ∀ m, (argsS ns s m).length = m
  | 0 => rfl
  | m + 1 => by rw [argsS, List.length_append, argsS_len ns s m]; rfl
theorem parS_le (n : Int) : 0 ≤ parS n ∧ parS n ≤ 3 := by unfold parS; split <;> omega
theorem argsL (s : Int) (p : Nat) (hp : p ≤ 3) (k : List Int → Option Bool) : ∀ (n i : Nat), i ≤ p → p - i < n → frames_Args_L0 n s (p : Int) (i : Int) (a, b, ns, ts, c, d, e, f, ()) (argsS ns s i) k = k (argsS ns s p)
  | 0, i, _, h => by omega
  | n + 1, i, h1, h2 => by
    rw [frames_Args_L0]
    unfold frames_Args_L0.body
    have hl := argsS_len ns s i
    by_cases h : i < p
    · simp (disch := first | omega | (simp only [List.length_append, List.length_cons, List.length_nil, List.length_set, List.length_take, List.length_drop, List.length_replicate]; omega) | fail) only [cond_t, cond_f, dt, df, w64, wu64, w8, ble_t, ble_f, ieqt, ieqf, inet, inef, Bool.not_true, Bool.not_false, Bool.true_and, Bool.and_true, Bool.false_and, Bool.and_false, Bool.not_not, Int.toNat_natCast, List.length_append, List.length_cons, List.length_nil, meet_self, ↓frames_Get_]
      exact argsL s p hp k n (i + 1) (by omega) (by omega)
    · obtain rfl : i = p := by omega
      simp (disch := first | omega | (simp only [List.length_append, List.length_cons, List.length_nil, List.length_set, List.length_take, List.length_drop, List.length_replicate]; omega) | fail) only [cond_t, cond_f, dt, df, w64, wu64, w8, ble_t, ble_f, ieqt, ieqf, inet, inef, Bool.not_true, Bool.not_false, Bool.true_and, Bool.and_true, Bool.false_and, Bool.and_false, Bool.not_not, Int.toNat_natCast, List.length_append, List.length_cons, List.length_nil, meet_self]
theorem args_ (s n : Int) (k : List Int → Option Bool) : frames_Args (a, b, ns, ts, c, d, e, f, ()) s n k = k (argsS ns s (parS n).toNat) := by
  unfold frames_Args frames_Args.body
  have hp := parS_le n
  simp (disch := first | omega | (simp only [List.length_append, List.length_cons, List.length_nil, List.length_set, List.length_take, List.length_drop, List.length_replicate]; omega) | fail) only [cond_t, cond_f, dt, df, w64, wu64, w8, ble_t, ble_f, ieqt, ieqf, inet, inef, Bool.not_true, Bool.not_false, Bool.true_and, Bool.and_true, Bool.false_and, Bool.and_false, Bool.not_not, Int.toNat_natCast, List.length_append, List.length_cons, List.length_nil, meet_self, ↓params_]
  have := argsL (a := a) (b := b) (c := c) (d := d) (e := e) (f := f) (ns := ns) (ts := ts) s (parS n).toNat (by omega) k ROUNDS 0 (by omega) (by unfold ROUNDS; omega)
  rw [show (((parS n).toNat : Nat) : Int) = parS n by omega] at this
  exact this
theorem rargsL (s cl : Int) (k : List Int → Option Bool) : ∀ (n i : Nat), i ≤ (parS cl).toNat → (parS cl).toNat - i < n → ref36_Args_L0 n s cl (i : Int) (a, b, ns, ts, c, d, e, f, ()) (argsS ns s i) k = k (argsS ns s (parS cl).toNat)
  | 0, i, _, h => by omega
  | n + 1, i, h1, h2 => by
    rw [ref36_Args_L0]
    unfold ref36_Args_L0.body
    have hp := parS_le cl
    have hl := argsS_len ns s i
    by_cases h : i < (parS cl).toNat
    · simp (disch := first | omega | (simp only [List.length_append, List.length_cons, List.length_nil, List.length_set, List.length_take, List.length_drop, List.length_replicate]; omega) | fail) only [cond_t, cond_f, dt, df, w64, wu64, w8, ble_t, ble_f, ieqt, ieqf, inet, inef, Bool.not_true, Bool.not_false, Bool.true_and, Bool.and_true, Bool.false_and, Bool.and_false, Bool.not_not, Int.toNat_natCast, List.length_append, List.length_cons, List.length_nil, meet_self, ↓rparams_, ↓ref36_Get_]
      exact rargsL s cl k n (i + 1) (by omega) (by omega)
    · have : i = (parS cl).toNat := by omega
      simp (disch := first | omega | (simp only [List.length_append, List.length_cons, List.length_nil, List.length_set, List.length_take, List.length_drop, List.length_replicate]; omega) | fail) only [cond_t, cond_f, dt, df, w64, wu64, w8, ble_t, ble_f, ieqt, ieqf, inet, inef, Bool.not_true, Bool.not_false, Bool.true_and, Bool.and_true, Bool.false_and, Bool.and_false, Bool.not_not, Int.toNat_natCast, List.length_append, List.length_cons, List.length_nil, meet_self, ↓rparams_]
      rw [this]
theorem rargs_ (s n : Int) (k : List Int → Option Bool) : ref36_Args (a, b, ns, ts, c, d, e, f, ()) s n k = k (argsS ns s (parS n).toNat) := by
  unfold ref36_Args ref36_Args.body
  have hp := parS_le n
  exact rargsL s n k ROUNDS 0 (by omega) (by unfold ROUNDS; omega)
theorem tellL (s : Int) (t : Pd) (x1 x2 : Int) (x3 : List Int) (x4 : List Pd) (x5 x6 : Int) (x7 x8 : Bool) (y1 y2 : Int) (y3 : List Int) (y4 : List Pd) (y5 y6 : Int) (y7 y8 : Bool) (k1 : Bool → Option Bool) (k2 : Fr → Pd → Int → Int → List Int → List Pd → Int → Int → Bool → Bool → Int → Int → List Int → List Pd → Int → Int → Bool → Bool → Option Bool) :
    ∀ (n : Nat) (i : Int), -1 ≤ i → i ≤ 9 → (9 - i).toNat < n → law36_FramesTell_L0 n s i (a, b, ns, ts, c, d, e, f, ()) t x1 x2 x3 x4 x5 x6 x7 x8 y1 y2 y3 y4 y5 y6 y7 y8 k1 k2 = k2 (a, b, ns, ts, c, d, e, f, ()) t x1 x2 x3 x4 x5 x6 x7 x8 y1 y2 y3 y4 y5 y6 y7 y8
  | 0, i, _, _, h => by omega
  | n + 1, i, h0, h1, h2 => by
    rw [law36_FramesTell_L0]
    unfold law36_FramesTell_L0.body
    have hp := parS_le i
    have hl := argsS_len ns s (parS i).toNat
    by_cases h : i ≤ 8
    · simp (disch := first | omega | (simp only [List.length_append, List.length_cons, List.length_nil, List.length_set, List.length_take, List.length_drop, List.length_replicate]; omega) | fail) only [cond_t, cond_f, dt, df, w64, wu64, w8, ble_t, ble_f, ieqt, ieqf, inet, inef, Bool.not_true, Bool.not_false, Bool.true_and, Bool.and_true, Bool.false_and, Bool.and_false, Bool.not_not, Int.toNat_natCast, List.length_append, List.length_cons, List.length_nil, meet_self, ↓args_, ↓rargs_, ↓ref01_Longsv2_]
      exact tellL s t x1 x2 x3 x4 x5 x6 x7 x8 y1 y2 y3 y4 y5 y6 y7 y8 k1 k2 n (i + 1) (by omega) (by omega) (by omega)
    · simp (disch := first | omega | (simp only [List.length_append, List.length_cons, List.length_nil, List.length_set, List.length_take, List.length_drop, List.length_replicate]; omega) | fail) only [cond_t, cond_f, dt, df, w64, wu64, w8, ble_t, ble_f, ieqt, ieqf, inet, inef, Bool.not_true, Bool.not_false, Bool.true_and, Bool.and_true, Bool.false_and, Bool.and_false, Bool.not_not, Int.toNat_natCast, List.length_append, List.length_cons, List.length_nil, meet_self]
theorem pend_ (x y : Fr) (hx : x.2.2.2.1.length ≤ 100) (hy : y.2.2.2.1.length ≤ 100) (k : Int → Option Bool) : frames_Pending [x, y] k = k (((x.2.2.2.1.length : Nat) : Int) + ((y.2.2.2.1.length : Nat) : Int)) := by
  unfold frames_Pending frames_Pending.body
  obtain ⟨R, hR⟩ : ∃ R, ROUNDS = R + 1 + 1 + 1 := ⟨1180591620717411303421, rfl⟩
  rw [hR]
  rw [frames_Pending_L0]
  unfold frames_Pending_L0.body
  rw [frames_Pending_L0]
  unfold frames_Pending_L0.body
  rw [frames_Pending_L0]
  unfold frames_Pending_L0.body
  simp
  simp (disch := first | omega | (simp only [List.length_append, List.length_cons, List.length_nil, List.length_set, List.length_take, List.length_drop, List.length_replicate]; omega) | fail) only [cond_t, cond_f, dt, df, w64, wu64, w8, ble_t, ble_f, ieqt, ieqf, inet, inef, Bool.not_true, Bool.not_false, Bool.true_and, Bool.and_true, Bool.false_and, Bool.and_false, Bool.not_not, Int.toNat_natCast, List.length_append, List.length_cons, List.length_nil, meet_self]
  simp
  simp (disch := first | omega | (simp only [List.length_append, List.length_cons, List.length_nil, List.length_set, List.length_take, List.length_drop, List.length_replicate]; omega) | fail) only [cond_t, cond_f, dt, df, w64, wu64, w8, ble_t, ble_f, ieqt, ieqf, inet, inef, Bool.not_true, Bool.not_false, Bool.true_and, Bool.and_true, Bool.false_and, Bool.and_false, Bool.not_not, Int.toNat_natCast, List.length_append, List.length_cons, List.length_nil, meet_self]
theorem rpend_ (x y : Fr) (hx : x.2.2.2.1.length ≤ 100) (hy : y.2.2.2.1.length ≤ 100) (k : Int → Option Bool) : ref36_Pending [x, y] k = k (((x.2.2.2.1.length : Nat) : Int) + ((y.2.2.2.1.length : Nat) : Int)) := by
  unfold ref36_Pending ref36_Pending.body
  obtain ⟨R, hR⟩ : ∃ R, ROUNDS = R + 1 + 1 + 1 := ⟨1180591620717411303421, rfl⟩
  rw [hR]
  rw [ref36_Pending_L0]
  unfold ref36_Pending_L0.body
  rw [ref36_Pending_L0]
  unfold ref36_Pending_L0.body
  rw [ref36_Pending_L0]
  unfold ref36_Pending_L0.body
  simp
  simp (disch := first | omega | (simp only [List.length_append, List.length_cons, List.length_nil, List.length_set, List.length_take, List.length_drop, List.length_replicate]; omega) | fail) only [cond_t, cond_f, dt, df, w64, wu64, w8, ble_t, ble_f, ieqt, ieqf, inet, inef, Bool.not_true, Bool.not_false, Bool.true_and, Bool.and_true, Bool.false_and, Bool.and_false, Bool.not_not, Int.toNat_natCast, List.length_append, List.length_cons, List.length_nil, meet_self]
  simp
  simp (disch := first | omega | (simp only [List.length_append, List.length_cons, List.length_nil, List.length_set, List.length_take, List.length_drop, List.length_replicate]; omega) | fail) only [cond_t, cond_f, dt, df, w64, wu64, w8, ble_t, ble_f, ieqt, ieqf, inet, inef, Bool.not_true, Bool.not_false, Bool.true_and, Bool.and_true, Bool.false_and, Bool.and_false, Bool.not_not, Int.toNat_natCast, List.length_append, List.length_cons, List.length_nil, meet_self]
theorem set_same (n : Int) : setS ns n (getS ns n) = ns := by
  unfold setS getS
  split
  · rename_i h
    rw [List.getD_eq_getElem?_getD, List.getElem?_eq_getElem (by omega)]
    simp
  · rfl
theorem holds (x : Fr) (s n : Int) (t : Pd) (h0 : okD (.st [.int .i64, .int .i64, .sl 2 (.int .i64), .sl 39 (.st [.int .i64, .int .i64]), .int .i64, .int .i64, .bool, .bool]) x) (h1 : okD (.int .i64) s) (h2 : okD (.int .i64) n) (h3 : okD (.st [.int .i64, .int .i64]) t) : law36_FramesTell x s n t (fun y => some y) = some true := by
  obtain ⟨a, b, ns, ts, c, d, e, f, ⟨⟩⟩ := x
  unfold law36_FramesTell law36_FramesTell.body law36_few law36_few.body law36_known
  obtain ⟨R, hR, hR2⟩ : ∃ R, ROUNDS = R ∧ 1000000 ≤ R := ⟨ROUNDS, rfl, by unfold ROUNDS; omega⟩
  rw [hR]
  dsimp only
  by_cases c1 : (ns.length : Int) ≤ 60
  · by_cases c2 : (ts.length : Int) ≤ 60
    · have hs := setS_len (ns := ns) s n
      have hg : getS ns s = getS ns s := rfl
      simp (disch := first | omega | (simp only [List.length_append, List.length_cons, List.length_nil, List.length_set, List.length_take, List.length_drop, List.length_replicate]; omega) | fail) only [cond_t, cond_f, dt, df, w64, wu64, w8, ble_t, ble_f, ieqt, ieqf, inet, inef, Bool.not_true, Bool.not_false, Bool.true_and, Bool.and_true, Bool.false_and, Bool.and_false, Bool.not_not, Int.toNat_natCast, List.length_append, List.length_cons, List.length_nil, meet_self, ↓rdefer_, ↓frames_Get_, ↓ref36_Get_, ↓rset_, ↓next_, ↓rnext_, ↓fset_, ↓rset1_, ↓ref36_Same_, ↓defer_, ↓same1_, beq_self_eq_true, set_same]
      generalize hw : nextS a b ns ts c d e f = w
      have hw1 : w.2.1.2.2.1 = ns := by rw [← hw]; unfold nextS; split <;> rfl
      have hw2 : w.2.1.2.2.2.1.length ≤ 60 := by
        rw [← hw]; unfold nextS; split
        · exact (by omega : ts.length ≤ 60)
        · show (ts.take (ts.length - 1)).length ≤ 60
          rw [List.length_take]; omega
      obtain ⟨w1, ⟨v1, v2, v3, v4, v5, v6, v7, v8, ⟨⟩⟩, w3⟩ := w
      dsimp only at hw1 hw2 ⊢
      subst hw1
      rw [same2_ _ (by dsimp only; omega) (by dsimp only; omega)]
      simp (disch := first | omega | (simp only [List.length_append, List.length_cons, List.length_nil, List.length_set, List.length_take, List.length_drop, List.length_replicate]; omega) | fail) only [cond_t, cond_f, dt, df, w64, wu64, w8, ble_t, ble_f, ieqt, ieqf, inet, inef, Bool.not_true, Bool.not_false, Bool.true_and, Bool.and_true, Bool.false_and, Bool.and_false, Bool.not_not, Int.toNat_natCast, List.length_append, List.length_cons, List.length_nil, meet_self]
      rw [tellL s t _ _ _ _ _ _ _ _ _ _ _ _ _ _ _ _ _ _ R (-1) (by omega) (by omega) (by omega)]
      rw [pend_ _ _ (by dsimp only; omega) (by dsimp only; omega)]
      dsimp only
      rw [rpend_ _ _ (by dsimp only; omega) (by dsimp only; omega)]
      simp (disch := first | omega | (simp only [List.length_append, List.length_cons, List.length_nil, List.length_set, List.length_take, List.length_drop, List.length_replicate]; omega) | fail) only [cond_t, cond_f, dt, df, w64, wu64, w8, ble_t, ble_f, ieqt, ieqf, inet, inef, Bool.not_true, Bool.not_false, Bool.true_and, Bool.and_true, Bool.false_and, Bool.and_false, Bool.not_not, Int.toNat_natCast, List.length_append, List.length_cons, List.length_nil, meet_self, ↓rdefer_, ↓ref36_Samev3_, beq_self_eq_true]
    · simp (disch := first | omega | (simp only [List.length_append, List.length_cons, List.length_nil, List.length_set, List.length_take, List.length_drop, List.length_replicate]; omega) | fail) only [cond_t, cond_f, dt, df, w64, wu64, w8, ble_t, ble_f, ieqt, ieqf, inet, inef, Bool.not_true, Bool.not_false, Bool.true_and, Bool.and_true, Bool.false_and, Bool.and_false, Bool.not_not, Int.toNat_natCast, List.length_append, List.length_cons, List.length_nil, meet_self]
  · simp (disch := first | omega | (simp only [List.length_append, List.length_cons, List.length_nil, List.length_set, List.length_take, List.length_drop, List.length_replicate]; omega) | fail) only [cond_t, cond_f, dt, df, w64, wu64, w8, ble_t, ble_f, ieqt, ieqf, inet, inef, Bool.not_true, Bool.not_false, Bool.true_and, Bool.and_true, Bool.false_and, Bool.and_false, Bool.not_not, Int.toNat_natCast, List.length_append, List.length_cons, List.length_nil, meet_self]

end Go.Proofs.Ytbbpdfogfcffbaa.framesTell
