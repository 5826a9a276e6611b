/- What the plain functions answer: the law, without program or memory. -/
import Derived.Test.YtbnkdfoolfpllaaMG
import Derived.IntWalk
namespace Go.Proofs.Ytbnkdfoolfpllaa.memoryNobody
open Go.AX Go.Proofs.Ytbnkdfoolfpllaa.g
set_option linter.unusedVariables false
set_option linter.unusedSimpArgs false
theorem cond_ite (b : Bool) (x y : Option Bool) : cond_ b x y = if b = true then x else y := by cases b <;> rfl
@[simp] theorem cond_t (x y : Option Bool) : cond_ true x y = x := rfl
@[simp] theorem cond_f (x y : Option Bool) : cond_ false x y = y := rfl
theorem cond_pos {b : Bool} {x y : Option Bool} (h : b = true) : cond_ b x y = x := by rw [h]; rfl
theorem cond_neg {b : Bool} {x y : Option Bool} (h : b = false) : cond_ b x y = y := by rw [h]; rfl
@[simp] theorem meet_self (x : Option Bool) : meet x x = x := by
  cases x with
  | none => rfl
  | some a => simp [meet]
theorem w64 {n : Int} (h1 : -9223372036854775808 ≤ n) (h2 : n ≤ 9223372036854775807) : IntKind.wrap .i64 n = n := IntWalk.i64_in n ⟨h1, h2⟩
theorem w8 {n : Int} (h1 : 0 ≤ n) (h2 : n ≤ 255) : IntKind.wrap .u8 n = n := IntWalk.u8_in n ⟨h1, h2⟩
theorem wu64 {n : Int} (h1 : 0 ≤ n) (h2 : n ≤ 18446744073709551615) : IntKind.wrap .u64 n = n := IntWalk.u64_in n ⟨h1, h2⟩
theorem ble_t {a b : Nat} (h : a ≤ b) : Nat.ble a b = true := by rw [Nat.ble_eq]; exact h
theorem ok64 {n : Int} (h : okD (.int .i64) n) : -9223372036854775808 ≤ n ∧ n ≤ 9223372036854775807 := by
  have := okD_int.1 h
  simpa [Lit.wf, IntKind.min, IntKind.max, IntKind.bits, IntKind.signed, i_] using this
theorem not_t {p : Prop} [Decidable p] (h : ¬p) : (!decide p) = true := by simp [h]
theorem not_f {p : Prop} [Decidable p] (h : p) : (!decide p) = false := by simp [h]
theorem at0 (n m : Int) (k : Bool → Int → Option Bool) : memory_Memory_at n m k = k false m := by
  unfold memory_Memory_at memory_Memory_at.body memory_Memory_Size memory_Memory_Size.body
  by_cases h : n < 0
  · simp [h]
  · have h' : 0 ≤ n := by omega
    simp [h, h']
theorem at2 (n m : Int) (k : Bool → Int → Option Bool) : memory_Memory_atv2 n m k = k false m := by
  unfold memory_Memory_atv2 memory_Memory_atv2.body memory_Memory_Size memory_Memory_Size.body
  by_cases h : n < 0
  · simp [h]
  · have h' : 0 ≤ n := by omega
    simp [h, h']
theorem at1 (n m : Int) (k : Bool → Bool → Int → Option Bool) : memory_Memory_atv1 n false m k = k false false m := by
  unfold memory_Memory_atv1 memory_Memory_atv1.body memory_Memory_Sizev1 memory_Memory_Sizev1.body
  by_cases h : n < 0
  · simp [h]
  · have h' : 0 ≤ n := by omega
    simp [h, h']
theorem at3 (n m : Int) (k : Bool → Bool → Int → Option Bool) : memory_Memory_atv3 n false m k = k false false m := by
  unfold memory_Memory_atv3 memory_Memory_atv3.body memory_Memory_Sizev1 memory_Memory_Sizev1.body
  by_cases h : n < 0
  · simp [h]
  · have h' : 0 ≤ n := by omega
    simp [h, h']
theorem holds (a b : Int) (ha : okD (.int .i64) a) (hb : okD (.int .i64) b) : law38_MemoryNobody a b (fun y => some y) = some true := by
  simp [law38_MemoryNobody, law38_MemoryNobody.body, memory_Memory_Load, memory_Memory_Load.body, memory_Memory_Loadv1, memory_Memory_Loadv1.body, memory_Memory_Grow, memory_Memory_Grow.body, memory_Memory_Growv1, memory_Memory_Growv1.body, memory_Memory_Item, memory_Memory_Item.body, memory_Memory_Itemv1, memory_Memory_Itemv1.body, memory_Memory_Size, memory_Memory_Size.body, memory_Memory_Sizev1, memory_Memory_Sizev1.body, memory_Memory_Store, memory_Memory_Store.body, memory_Memory_Storev1, memory_Memory_Storev1.body, memory_Memory_Copy, memory_Memory_Copy.body, memory_Memory_Copyv1, memory_Memory_Copyv1.body, law38_known, at0, at1, at2, at3]

end Go.Proofs.Ytbnkdfoolfpllaa.memoryNobody
