/- What the plain functions answer: the law, without program or memory. -/
import Derived.Test.YtlmggajbalnpjaaMG
import Derived.IntWalk
namespace Go.Proofs.Ytlmggajbalnpjaa.defersNobody
open Go.AX Go.Proofs.Ytlmggajbalnpjaa.g
set_option linter.unusedVariables false
set_option linter.unusedSimpArgs false
theorem cond_ite (b : Bool) (x y : Option Bool) : cond_ b x y = if b = true then x else y := by cases b <;> rfl
@[simp] theorem cond_t (x y : Option Bool) : cond_ true x y = x := rfl
@[simp] theorem cond_f (x y : Option Bool) : cond_ false x y = y := rfl
theorem cond_pos {b : Bool} {x y : Option Bool} (h : b = true) : cond_ b x y = x := by rw [h]; rfl
theorem cond_neg {b : Bool} {x y : Option Bool} (h : b = false) : cond_ b x y = y := by rw [h]; rfl
@[simp] theorem meet_self (x : Option Bool) : meet x x = x := by
  cases x with
  | none => rfl
  | some a => simp [meet]
theorem w64 {n : Int} (h1 : -9223372036854775808 ≤ n) (h2 : n ≤ 9223372036854775807) : IntKind.wrap .i64 n = n := IntWalk.i64_in n ⟨h1, h2⟩
theorem w8 {n : Int} (h1 : 0 ≤ n) (h2 : n ≤ 255) : IntKind.wrap .u8 n = n := IntWalk.u8_in n ⟨h1, h2⟩
theorem wu64 {n : Int} (h1 : 0 ≤ n) (h2 : n ≤ 18446744073709551615) : IntKind.wrap .u64 n = n := IntWalk.u64_in n ⟨h1, h2⟩
theorem ble_t {a b : Nat} (h : a ≤ b) : Nat.ble a b = true := by rw [Nat.ble_eq]; exact h
theorem ok64 {n : Int} (h : okD (.int .i64) n) : -9223372036854775808 ≤ n ∧ n ≤ 9223372036854775807 := by
  have := okD_int.1 h
  simpa [Lit.wf, IntKind.min, IntKind.max, IntKind.bits, IntKind.signed, i_] using this
theorem not_t {p : Prop} [Decidable p] (h : ¬p) : (!decide p) = true := by simp [h]
theorem not_f {p : Prop} [Decidable p] (h : p) : (!decide p) = false := by simp [h]
theorem cond_congr {b c : Bool} (h : b = c) (x y : Option Bool) : cond_ b x y = cond_ c x y := by rw [h]
attribute [local congr] cond_congr
theorem dt {p : Prop} [Decidable p] (h : p) : decide p = true := decide_eq_true h
theorem df {p : Prop} [Decidable p] (h : ¬p) : decide p = false := decide_eq_false h
theorem ieqt {a b : Int} (h : a = b) : (a == b) = true := by simp [h]
theorem ieqf {a b : Int} (h : a ≠ b) : (a == b) = false := by simp [h]
theorem inet {a b : Int} (h : a ≠ b) : (a != b) = true := by simp [h]
theorem inef {a b : Int} (h : a = b) : (a != b) = false := by simp [h]
theorem ble_f {a b : Nat} (h : b < a) : Nat.ble a b = false := by
  cases hb : Nat.ble a b with
  | false => rfl
  | true => rw [Nat.ble_eq] at hb; omega
theorem rounds_ : ∃ R, ROUNDS = R ∧ 1000000000 ≤ R := ⟨ROUNDS, rfl, by unfold ROUNDS; omega⟩
theorem holds (t : Int × Int × Int × Unit) (u : Int × Int × Int × Int × Bool × Unit) (h0 : okD (.st [.int .i64, .int .i64, .int .i64]) t) (h1 : okD (.st [.int .i64, .int .i64, .int .i64, .int .i64, .bool]) u) : law40_DefersNobody t u (fun y => some y) = some true := by
  simp only [law40_DefersNobody, law40_DefersNobody.body, law40_known, defers_List_Takev2, defers_List_Takev2.body, defers_List_Takev3, defers_List_Takev3.body, defers_List_Topv2, defers_List_Topv2.body, defers_List_Top, defers_List_Top.body, defers_List_Recoverv2, defers_List_Recoverv2.body, defers_List_Recover, defers_List_Recover.body, defers_List_Donev1, defers_List_Donev1.body, defers_List_Donev2, defers_List_Donev2.body, defers_List_Putv3, defers_List_Putv3.body, defers_List_Put, defers_List_Put.body, defers_List_Drivev2, defers_List_Drivev2.body, defers_List_Drivev3, defers_List_Drivev3.body, defers_List_Lenv3, defers_List_Lenv3.body, defers_List_Lenv1, defers_List_Lenv1.body, defers_List_Depthv2, defers_List_Depthv2.body, defers_List_Depthv1, defers_List_Depthv1.body, defers_List_Depth, defers_List_Depth.body, defers_List_nonev3, defers_List_nonev3.body, defers_List_nonev1, defers_List_nonev1.body, defers_List_none, defers_List_none.body, defers_List_nonev2, defers_List_nonev2.body, cond_t, cond_f, Bool.not_false, Bool.not_true, beq_self_eq_true]
  rfl

end Go.Proofs.Ytlmggajbalnpjaa.defersNobody
