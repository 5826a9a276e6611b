/- What the plain functions answer: the law, without program or memory. -/
import Derived.Test.YtpmgmpaodjcfjaaMG
import Derived.IntWalk
namespace Go.Proofs.Ytpmgmpaodjcfjaa.octetNobody
open Go.AX Go.Proofs.Ytpmgmpaodjcfjaa.g
set_option linter.unusedVariables false
set_option linter.unusedSimpArgs false
theorem cond_ite (b : Bool) (x y : Option Bool) : cond_ b x y = if b = true then x else y := by cases b <;> rfl
@[simp] theorem cond_t (x y : Option Bool) : cond_ true x y = x := rfl
@[simp] theorem cond_f (x y : Option Bool) : cond_ false x y = y := rfl
theorem cond_pos {b : Bool} {x y : Option Bool} (h : b = true) : cond_ b x y = x := by rw [h]; rfl
theorem cond_neg {b : Bool} {x y : Option Bool} (h : b = false) : cond_ b x y = y := by rw [h]; rfl
@[simp] theorem meet_self (x : Option Bool) : meet x x = x := by
  cases x with
  | none => rfl
  | some a => simp [meet]
theorem w64 {n : Int} (h1 : -9223372036854775808 ≤ n) (h2 : n ≤ 9223372036854775807) : IntKind.wrap .i64 n = n := IntWalk.i64_in n ⟨h1, h2⟩
theorem w8 {n : Int} (h1 : 0 ≤ n) (h2 : n ≤ 255) : IntKind.wrap .u8 n = n := IntWalk.u8_in n ⟨h1, h2⟩
theorem wu64 {n : Int} (h1 : 0 ≤ n) (h2 : n ≤ 18446744073709551615) : IntKind.wrap .u64 n = n := IntWalk.u64_in n ⟨h1, h2⟩
theorem ble_t {a b : Nat} (h : a ≤ b) : Nat.ble a b = true := by rw [Nat.ble_eq]; exact h
theorem ok64 {n : Int} (h : okD (.int .i64) n) : -9223372036854775808 ≤ n ∧ n ≤ 9223372036854775807 := by
  have := okD_int.1 h
  simpa [Lit.wf, IntKind.min, IntKind.max, IntKind.bits, IntKind.signed, i_] using this
theorem not_t {p : Prop} [Decidable p] (h : ¬p) : (!decide p) = true := by simp [h]
theorem not_f {p : Prop} [Decidable p] (h : p) : (!decide p) = false := by simp [h]
theorem take1 (n : Int) (k : List Int → Option Bool) : octet_Reader_takev1 n k = k [] := by
  simp [octet_Reader_takev1, octet_Reader_takev1.body, octet_Reader_Badv1, octet_Reader_Badv1.body, octet_Reader_spoilv1, octet_Reader_spoilv1.body]
theorem loop1 (k : Int → List Int → Option Bool) : octet_numberv1_L0 ROUNDS 0 (([] : List Int).length : Int) 0 [] k = k 0 [] := by
  have e : octet_numberv1_L0 ROUNDS = octet_numberv1_L0 (1180591620717411303423 + 1) := rfl
  rw [e, octet_numberv1_L0]
  simp [octet_numberv1_L0.body]
theorem number1 (w : Int) (k : Int → List Int → Option Bool) : octet_numberv1 w k = k 0 [] := by
  unfold octet_numberv1 octet_numberv1.body
  simp only [take1, loop1]
  by_cases h : w < 1
  · simp [h]
  · by_cases h2 : w > 8 <;> simp [h, h2]
theorem take2 (n a : Int) (b : Bool) (k : Int → Bool → Bool → List Int → Option Bool) : octet_Reader_takev2 n a false b k = k a false true [] := by
  simp [octet_Reader_takev2, octet_Reader_takev2.body, octet_Reader_Badv2, octet_Reader_Badv2.body, octet_Reader_spoilv2, octet_Reader_spoilv2.body]
theorem loop2 (a : Int) (b c : Bool) (k : Int → Int → Bool → Bool → List Int → Option Bool) : octet_numberv2_L0 ROUNDS 0 (([] : List Int).length : Int) 0 a b c [] k = k 0 a b c [] := by
  have e : octet_numberv2_L0 ROUNDS = octet_numberv2_L0 (1180591620717411303423 + 1) := rfl
  rw [e, octet_numberv2_L0]
  simp [octet_numberv2_L0.body]
theorem number2 (w a : Int) (b : Bool) (k : Int → Int → Bool → Bool → List Int → Option Bool) : octet_numberv2 w a false b k = k 0 a false true [] := by
  unfold octet_numberv2 octet_numberv2.body
  simp only [take2, loop2]
  by_cases h : w < 1
  · simp [h]
  · by_cases h2 : w > 8 <;> simp [h, h2]
theorem holds (w m : Int) (h0 : okD (.int .i64) w) (h1 : okD (.int .i64) m) : law02_OctetNobody w m (fun y => some y) = some true := by
  simp [law02_OctetNobody, law02_OctetNobody.body, octet_Reader_Numv1, octet_Reader_Numv1.body, octet_Reader_Numv2, octet_Reader_Numv2.body, octet_Reader_Signedv1, octet_Reader_Signedv1.body, octet_Reader_Signedv2, octet_Reader_Signedv2.body, number1, number2, octet_Reader_Textv1, octet_Reader_Textv1.body, octet_Reader_Textv2, octet_Reader_Textv2.body, octet_Reader_Badv1, octet_Reader_Badv1.body, octet_Reader_Badv2, octet_Reader_Badv2.body, octet_Reader_spoilv1, octet_Reader_spoilv1.body, octet_Reader_spoilv2, octet_Reader_spoilv2.body, octet_Reader_Atv1, octet_Reader_Atv1.body, octet_Reader_Atv2, octet_Reader_Atv2.body, octet_Reader_Leftv1, octet_Reader_Leftv1.body, octet_Reader_Leftv2, octet_Reader_Leftv2.body, law02_known]
  decide

end Go.Proofs.Ytpmgmpaodjcfjaa.octetNobody
