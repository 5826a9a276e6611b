/- What the plain functions answer: the law, without program or memory. -/
import Derived.Test.YtbbpdfogfcffbaaMGA
import Derived.IntWalk
namespace Go.Proofs.Ytbbpdfogfcffbaa.framesApart
open Go.AX Go.Proofs.Ytbbpdfogfcffbaa.gA
set_option linter.unusedVariables false
set_option linter.unusedSimpArgs false
theorem cond_ite (b : Bool) (x y : Option Bool) : cond_ b x y = if b = true then x else y := by cases b <;> rfl
@[simp] theorem cond_t (x y : Option Bool) : cond_ true x y = x := rfl
@[simp] theorem cond_f (x y : Option Bool) : cond_ false x y = y := rfl
theorem cond_pos {b : Bool} {x y : Option Bool} (h : b = true) : cond_ b x y = x := by rw [h]; rfl
theorem cond_neg {b : Bool} {x y : Option Bool} (h : b = false) : cond_ b x y = y := by rw [h]; rfl
@[simp] theorem meet_self (x : Option Bool) : meet x x = x := by
  cases x with
  | none => rfl
  | some a => simp [meet]
theorem w64 {n : Int} (h1 : -9223372036854775808 ≤ n) (h2 : n ≤ 9223372036854775807) : IntKind.wrap .i64 n = n := IntWalk.i64_in n ⟨h1, h2⟩
theorem w8 {n : Int} (h1 : 0 ≤ n) (h2 : n ≤ 255) : IntKind.wrap .u8 n = n := IntWalk.u8_in n ⟨h1, h2⟩
theorem wu64 {n : Int} (h1 : 0 ≤ n) (h2 : n ≤ 18446744073709551615) : IntKind.wrap .u64 n = n := IntWalk.u64_in n ⟨h1, h2⟩
theorem ble_t {a b : Nat} (h : a ≤ b) : Nat.ble a b = true := by rw [Nat.ble_eq]; exact h
theorem ok64 {n : Int} (h : okD (.int .i64) n) : -9223372036854775808 ≤ n ∧ n ≤ 9223372036854775807 := by
  have := okD_int.1 h
  simpa [Lit.wf, IntKind.min, IntKind.max, IntKind.bits, IntKind.signed, i_] using this
theorem not_t {p : Prop} [Decidable p] (h : ¬p) : (!decide p) = true := by simp [h]
theorem not_f {p : Prop} [Decidable p] (h : p) : (!decide p) = false := by simp [h]
theorem cond_congr {b c : Bool} (h : b = c) (x y : Option Bool) : cond_ b x y = cond_ c x y := by rw [h]
attribute [local congr] cond_congr
theorem dt {p : Prop} [Decidable p] (h : p) : decide p = true := decide_eq_true h
theorem df {p : Prop} [Decidable p] (h : ¬p) : decide p = false := decide_eq_false h
theorem ieqt {a b : Int} (h : a = b) : (a == b) = true := by simp [h]
theorem ieqf {a b : Int} (h : a ≠ b) : (a == b) = false := by simp [h]
theorem inet {a b : Int} (h : a ≠ b) : (a != b) = true := by simp [h]
theorem inef {a b : Int} (h : a = b) : (a != b) = false := by simp [h]
theorem ble_f {a b : Nat} (h : b < a) : Nat.ble a b = false := by
  cases hb : Nat.ble a b with
  | false => rfl
  | true => rw [Nat.ble_eq] at hb; omega
abbrev Pd := Int × Int × Unit
theorem clone_ {ns : List Int} (h : ns.length ≤ 1000) (k : List Int → Option Bool) : slices_Clone_int64_int64 ns k = k ns := by
  unfold slices_Clone_int64_int64 slices_Clone_int64_int64.body
  simp (disch := first | omega | (simp only [List.length_append, List.length_cons, List.length_nil, List.length_set, List.length_take, List.length_drop, List.length_replicate]; omega) | fail) only [cond_t, cond_f, dt, df, w64, wu64, w8, ble_t, ble_f, ieqt, ieqf, inet, inef, Bool.not_true, Bool.not_false, Bool.true_and, Bool.and_true, Bool.false_and, Bool.and_false, Bool.not_not, Int.toNat_natCast, List.length_append, List.length_cons, List.length_nil, meet_self, List.nil_append]
  cases ns with
  | nil => simp
  | cons a r => rfl
theorem clone1_ {ns : List Int} (h : ns.length ≤ 1000) (k : List Int → Option Bool) : slices_Clone_int64_int64v1 ns k = k ns := by
  unfold slices_Clone_int64_int64v1 slices_Clone_int64_int64v1.body
  simp (disch := first | omega | (simp only [List.length_append, List.length_cons, List.length_nil, List.length_set, List.length_take, List.length_drop, List.length_replicate]; omega) | fail) only [cond_t, cond_f, dt, df, w64, wu64, w8, ble_t, ble_f, ieqt, ieqf, inet, inef, Bool.not_true, Bool.not_false, Bool.true_and, Bool.and_true, Bool.false_and, Bool.and_false, Bool.not_not, Int.toNat_natCast, List.length_append, List.length_cons, List.length_nil, meet_self, List.nil_append]
  cases ns with
  | nil => simp
  | cons a r => rfl
theorem clonep_ {ns : List Pd} (h : ns.length ≤ 1000) (k : List Pd → Option Bool) : slices_Clone_api_Pend_api_Pend ns k = k ns := by
  unfold slices_Clone_api_Pend_api_Pend slices_Clone_api_Pend_api_Pend.body
  simp (disch := first | omega | (simp only [List.length_append, List.length_cons, List.length_nil, List.length_set, List.length_take, List.length_drop, List.length_replicate]; omega) | fail) only [cond_t, cond_f, dt, df, w64, wu64, w8, ble_t, ble_f, ieqt, ieqf, inet, inef, Bool.not_true, Bool.not_false, Bool.true_and, Bool.and_true, Bool.false_and, Bool.and_false, Bool.not_not, Int.toNat_natCast, List.length_append, List.length_cons, List.length_nil, meet_self, List.nil_append]
  cases ns with
  | nil => simp
  | cons a r => rfl
theorem clonep1_ {ns : List Pd} (h : ns.length ≤ 1000) (k : List Pd → Option Bool) : slices_Clone_api_Pend_api_Pendv1 ns k = k ns := by
  unfold slices_Clone_api_Pend_api_Pendv1 slices_Clone_api_Pend_api_Pendv1.body
  simp (disch := first | omega | (simp only [List.length_append, List.length_cons, List.length_nil, List.length_set, List.length_take, List.length_drop, List.length_replicate]; omega) | fail) only [cond_t, cond_f, dt, df, w64, wu64, w8, ble_t, ble_f, ieqt, ieqf, inet, inef, Bool.not_true, Bool.not_false, Bool.true_and, Bool.and_true, Bool.false_and, Bool.and_false, Bool.not_not, Int.toNat_natCast, List.length_append, List.length_cons, List.length_nil, meet_self, List.nil_append]
  cases ns with
  | nil => simp
  | cons a r => rfl
theorem defer_ {a b c d : Int} {e f : Bool} {ns : List Int} {ts : List Pd} (hn : ns.length ≤ 100) (ht : ts.length ≤ 100) (t : Pd) (k : Int → Int → Int → Int → Bool → Bool → List Int → List Pd → Option Bool) :
    frames_Defer (a, b, ns, ts, c, d, e, f, ()) t k = k a b c d e f ns (ts ++ [t]) := by
  unfold frames_Defer frames_Defer.body frames_own frames_own.body
  simp (disch := first | omega | (simp only [List.length_append, List.length_cons, List.length_nil, List.length_set, List.length_take, List.length_drop, List.length_replicate]; omega) | fail) only [cond_t, cond_f, dt, df, w64, wu64, w8, ble_t, ble_f, ieqt, ieqf, inet, inef, Bool.not_true, Bool.not_false, Bool.true_and, Bool.and_true, Bool.false_and, Bool.and_false, Bool.not_not, Int.toNat_natCast, List.length_append, List.length_cons, List.length_nil, meet_self, ↓clone_, ↓clonep_]
theorem defer1_ {a b c d : Int} {e f : Bool} {ns : List Int} {ts : List Pd} (hn : ns.length ≤ 100) (ht : ts.length ≤ 100) (t : Pd) (k : Int → Int → Int → Int → Bool → Bool → List Int → List Pd → Option Bool) :
    frames_Deferv1 a b ns ts c d e f t k = k a b c d e f ns (ts ++ [t]) := by
  unfold frames_Deferv1 frames_Deferv1.body frames_ownv1 frames_ownv1.body
  simp (disch := first | omega | (simp only [List.length_append, List.length_cons, List.length_nil, List.length_set, List.length_take, List.length_drop, List.length_replicate]; omega) | fail) only [cond_t, cond_f, dt, df, w64, wu64, w8, ble_t, ble_f, ieqt, ieqf, inet, inef, Bool.not_true, Bool.not_false, Bool.true_and, Bool.and_true, Bool.false_and, Bool.and_false, Bool.not_not, Int.toNat_natCast, List.length_append, List.length_cons, List.length_nil, meet_self, ↓clone1_, ↓clonep1_]
theorem next_ {a b c d : Int} {e f : Bool} {ns : List Int} {ts : List Pd} (hn : ns.length ≤ 100) (ht : ts.length ≤ 100) (t : Pd) (k1 : Pd → Int → Int → Int → Int → Bool → Bool → Bool → List Int → List Pd → Option Bool) (k2 : Pd → Int → Int → Nat → Int → Int → Bool → Bool → Bool → List Int → List Pd → Option Bool) :
    frames_Next a b ns (ts ++ [t]) c d e f k1 k2 = k2 t a b ts.length c d e f true ns (ts ++ [t]) := by
  unfold frames_Next frames_Next.body frames_ownv1 frames_ownv1.body
  simp (disch := first | omega | (simp only [List.length_append, List.length_cons, List.length_nil, List.length_set, List.length_take, List.length_drop, List.length_replicate]; omega) | fail) only [cond_t, cond_f, dt, df, w64, wu64, w8, ble_t, ble_f, ieqt, ieqf, inet, inef, Bool.not_true, Bool.not_false, Bool.true_and, Bool.and_true, Bool.false_and, Bool.and_false, Bool.not_not, Int.toNat_natCast, List.length_append, List.length_cons, List.length_nil, meet_self, ↓clone1_, ↓clonep1_, Int.sub_zero]
  have e : ((ts.length + 1 : Nat) : Int) - 1 = (ts.length : Int) := by omega
  simp (disch := first | omega | (simp only [List.length_append, List.length_cons, List.length_nil, List.length_set, List.length_take, List.length_drop, List.length_replicate]; omega) | fail) only [cond_t, cond_f, dt, df, w64, wu64, w8, ble_t, ble_f, ieqt, ieqf, inet, inef, Bool.not_true, Bool.not_false, Bool.true_and, Bool.and_true, Bool.false_and, Bool.and_false, Bool.not_not, Int.toNat_natCast, List.length_append, List.length_cons, List.length_nil, meet_self, Nat.zero_add, e, List.getD_eq_getElem?_getD]
  simp
theorem longsL (ns : List Int) (k1 : Bool → Option Bool) (k2 : Option Bool) (hn : ns.length ≤ 100) : ∀ (n i : Nat), i ≤ ns.length → ns.length - i < n → ref01_Longs_L0 n ns ns (i : Int) k1 k2 = k2
  | 0, i, _, h => by omega
  | n + 1, i, h1, h2 => by
    rw [ref01_Longs_L0]
    unfold ref01_Longs_L0.body
    by_cases h : i < ns.length
    · simp (disch := first | omega | (simp only [List.length_append, List.length_cons, List.length_nil, List.length_set, List.length_take, List.length_drop, List.length_replicate]; omega) | fail) only [cond_t, cond_f, dt, df, w64, wu64, w8, ble_t, ble_f, ieqt, ieqf, inet, inef, Bool.not_true, Bool.not_false, Bool.true_and, Bool.and_true, Bool.false_and, Bool.and_false, Bool.not_not, Int.toNat_natCast, List.length_append, List.length_cons, List.length_nil, meet_self]
      exact longsL ns k1 k2 hn n (i + 1) (by omega) (by omega)
    · simp (disch := first | omega | (simp only [List.length_append, List.length_cons, List.length_nil, List.length_set, List.length_take, List.length_drop, List.length_replicate]; omega) | fail) only [cond_t, cond_f, dt, df, w64, wu64, w8, ble_t, ble_f, ieqt, ieqf, inet, inef, Bool.not_true, Bool.not_false, Bool.true_and, Bool.and_true, Bool.false_and, Bool.and_false, Bool.not_not, Int.toNat_natCast, List.length_append, List.length_cons, List.length_nil, meet_self]
theorem longs_ (ns : List Int) (hn : ns.length ≤ 100) (k : Bool → Option Bool) : ref01_Longs ns ns k = k true := by
  unfold ref01_Longs ref01_Longs.body
  simp (disch := first | omega | (simp only [List.length_append, List.length_cons, List.length_nil, List.length_set, List.length_take, List.length_drop, List.length_replicate]; omega) | fail) only [cond_t, cond_f, dt, df, w64, wu64, w8, ble_t, ble_f, ieqt, ieqf, inet, inef, Bool.not_true, Bool.not_false, Bool.true_and, Bool.and_true, Bool.false_and, Bool.and_false, Bool.not_not, Int.toNat_natCast, List.length_append, List.length_cons, List.length_nil, meet_self]
  exact longsL ns _ _ hn ROUNDS 0 (by omega) (by unfold ROUNDS; omega)
theorem sameL (a b c d : Int) (e f : Bool) (ns : List Int) (ts : List Pd) (k1 : Bool → Option Bool) (k2 : Option Bool) (hn : ts.length ≤ 100) : ∀ (n i : Nat), i ≤ ts.length → ts.length - i < n → ref36_Same_L0 n (i : Int) a b ns ts c d e f a b ns ts c d e f k1 k2 = k2
  | 0, i, _, h => by omega
  | n + 1, i, h1, h2 => by
    rw [ref36_Same_L0]
    unfold ref36_Same_L0.body
    by_cases h : i < ts.length
    · simp (disch := first | omega | (simp only [List.length_append, List.length_cons, List.length_nil, List.length_set, List.length_take, List.length_drop, List.length_replicate]; omega) | fail) only [cond_t, cond_f, dt, df, w64, wu64, w8, ble_t, ble_f, ieqt, ieqf, inet, inef, Bool.not_true, Bool.not_false, Bool.true_and, Bool.and_true, Bool.false_and, Bool.and_false, Bool.not_not, Int.toNat_natCast, List.length_append, List.length_cons, List.length_nil, meet_self]
      exact sameL a b c d e f ns ts k1 k2 hn n (i + 1) (by omega) (by omega)
    · simp (disch := first | omega | (simp only [List.length_append, List.length_cons, List.length_nil, List.length_set, List.length_take, List.length_drop, List.length_replicate]; omega) | fail) only [cond_t, cond_f, dt, df, w64, wu64, w8, ble_t, ble_f, ieqt, ieqf, inet, inef, Bool.not_true, Bool.not_false, Bool.true_and, Bool.and_true, Bool.false_and, Bool.and_false, Bool.not_not, Int.toNat_natCast, List.length_append, List.length_cons, List.length_nil, meet_self]
theorem same_ (a b c d : Int) (e f : Bool) {ns : List Int} {ts : List Pd} (hn : ns.length ≤ 100) (ht : ts.length ≤ 100) (k : Bool → Option Bool) : ref36_Same a b ns ts c d e f a b ns ts c d e f k = k true := by
  unfold ref36_Same ref36_Same.body
  simp (disch := first | omega | (simp only [List.length_append, List.length_cons, List.length_nil, List.length_set, List.length_take, List.length_drop, List.length_replicate]; omega) | fail) only [cond_t, cond_f, dt, df, w64, wu64, w8, ble_t, ble_f, ieqt, ieqf, inet, inef, Bool.not_true, Bool.not_false, Bool.true_and, Bool.and_true, Bool.false_and, Bool.and_false, Bool.not_not, Int.toNat_natCast, List.length_append, List.length_cons, List.length_nil, meet_self, ↓longs_, beq_self_eq_true]
  exact sameL a b c d e f ns ts _ _ ht ROUNDS 0 (by omega) (by unfold ROUNDS; omega)
theorem holds (x : Int × Int × List Int × List Pd × Int × Int × Bool × Bool × Unit) (a b : Pd) (h0 : okD (.st [.int .i64, .int .i64, .sl 2 (.int .i64), .sl 39 (.st [.int .i64, .int .i64]), .int .i64, .int .i64, .bool, .bool]) x) (h1 : okD (.st [.int .i64, .int .i64]) a) (h2 : okD (.st [.int .i64, .int .i64]) b) : law36_FramesApart x a b (fun y => some y) = some true := by
  obtain ⟨n1, n2, ns, ts, n3, n4, b1, b2, ⟨⟩⟩ := x
  unfold law36_FramesApart law36_FramesApart.body law36_few law36_few.body law36_known
  dsimp only
  by_cases c1 : (ns.length : Int) ≤ 60
  · by_cases c2 : (ts.length : Int) ≤ 60
    · have e : List.take (ts.length + (0 + 1)) (ts ++ [a] ++ [b]) = ts ++ [a] := List.take_left' (by simp)
      simp (disch := first | omega | (simp only [List.length_append, List.length_cons, List.length_nil, List.length_set, List.length_take, List.length_drop, List.length_replicate]; omega) | fail) only [cond_t, cond_f, dt, df, w64, wu64, w8, ble_t, ble_f, ieqt, ieqf, inet, inef, Bool.not_true, Bool.not_false, Bool.true_and, Bool.and_true, Bool.false_and, Bool.and_false, Bool.not_not, Int.toNat_natCast, List.length_append, List.length_cons, List.length_nil, meet_self, ↓defer_, ↓defer1_, ↓next_, beq_self_eq_true, List.drop_zero, List.take_left', ↓e, ↓same_]
    · simp (disch := first | omega | (simp only [List.length_append, List.length_cons, List.length_nil, List.length_set, List.length_take, List.length_drop, List.length_replicate]; omega) | fail) only [cond_t, cond_f, dt, df, w64, wu64, w8, ble_t, ble_f, ieqt, ieqf, inet, inef, Bool.not_true, Bool.not_false, Bool.true_and, Bool.and_true, Bool.false_and, Bool.and_false, Bool.not_not, Int.toNat_natCast, List.length_append, List.length_cons, List.length_nil, meet_self]
  · simp (disch := first | omega | (simp only [List.length_append, List.length_cons, List.length_nil, List.length_set, List.length_take, List.length_drop, List.length_replicate]; omega) | fail) only [cond_t, cond_f, dt, df, w64, wu64, w8, ble_t, ble_f, ieqt, ieqf, inet, inef, Bool.not_true, Bool.not_false, Bool.true_and, Bool.and_true, Bool.false_and, Bool.and_false, Bool.not_not, Int.toNat_natCast, List.length_append, List.length_cons, List.length_nil, meet_self]

end Go.Proofs.Ytbbpdfogfcffbaa.framesApart
