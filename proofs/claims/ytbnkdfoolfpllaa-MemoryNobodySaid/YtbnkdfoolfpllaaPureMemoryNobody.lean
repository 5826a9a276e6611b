/- What the plain functions answer: the law, without program or memory. -/
import Derived.Test.YtbnkdfoolfpllaaMMemoryNobody
namespace Go.Proofs.Ytbnkdfoolfpllaa.memoryNobody
open Go.AX
set_option linter.unusedVariables false
set_option linter.unusedSimpArgs false
theorem cond_ite (b : Bool) (x y : Option Bool) : cond_ b x y = if b = true then x else y := by cases b <;> rfl
@[simp] theorem cond_t (x y : Option Bool) : cond_ true x y = x := rfl
@[simp] theorem cond_f (x y : Option Bool) : cond_ false x y = y := rfl
theorem at0 (n m : Int) (k : Bool → Int → Option Bool) : memory_Memory_at n m k = k false m := by
  unfold memory_Memory_at memory_Memory_Size
  by_cases h : n < 0
  · simp [h]
  · have h' : 0 ≤ n := by omega
    simp [h, h']
theorem at2 (n m : Int) (k : Bool → Int → Option Bool) : memory_Memory_atv2 n m k = k false m := by
  unfold memory_Memory_atv2 memory_Memory_Size
  by_cases h : n < 0
  · simp [h]
  · have h' : 0 ≤ n := by omega
    simp [h, h']
theorem at1 (n m : Int) (k : Bool → Bool → Int → Option Bool) : memory_Memory_atv1 n false m k = k false false m := by
  unfold memory_Memory_atv1 memory_Memory_Sizev1
  by_cases h : n < 0
  · simp [h]
  · have h' : 0 ≤ n := by omega
    simp [h, h']
theorem at3 (n m : Int) (k : Bool → Bool → Int → Option Bool) : memory_Memory_atv3 n false m k = k false false m := by
  unfold memory_Memory_atv3 memory_Memory_Sizev1
  by_cases h : n < 0
  · simp [h]
  · have h' : 0 ≤ n := by omega
    simp [h, h']
theorem holds (a b : Int) (ha : okD (.int .i64) a) (hb : okD (.int .i64) b) : law38_MemoryNobody a b (fun y => some y) = some true := by
  simp [law38_MemoryNobody, memory_Memory_Load, memory_Memory_Loadv1, memory_Memory_Grow, memory_Memory_Growv1, memory_Memory_Item, memory_Memory_Itemv1, memory_Memory_Size, memory_Memory_Sizev1, memory_Memory_Store, memory_Memory_Storev1, memory_Memory_Copy, memory_Memory_Copyv1, law38_known, at0, at1, at2, at3]

end Go.Proofs.Ytbnkdfoolfpllaa.memoryNobody
