/- What the plain functions answer: the law, without program or memory. -/
import Derived.Test.YtbnkdfoolfpllaaMG
import Derived.IntWalk
namespace Go.Proofs.Ytbnkdfoolfpllaa.memoryApart
open Go.AX Go.Proofs.Ytbnkdfoolfpllaa.g
set_option linter.unusedVariables false
set_option linter.unusedSimpArgs false
theorem cond_ite (b : Bool) (x y : Option Bool) : cond_ b x y = if b = true then x else y := by cases b <;> rfl
@[simp] theorem cond_t (x y : Option Bool) : cond_ true x y = x := rfl
@[simp] theorem cond_f (x y : Option Bool) : cond_ false x y = y := rfl
theorem cond_pos {b : Bool} {x y : Option Bool} (h : b = true) : cond_ b x y = x := by rw [h]; rfl
theorem cond_neg {b : Bool} {x y : Option Bool} (h : b = false) : cond_ b x y = y := by rw [h]; rfl
@[simp] theorem meet_self (x : Option Bool) : meet x x = x := by
  cases x with
  | none => rfl
  | some a => simp [meet]
theorem w64 {n : Int} (h1 : -9223372036854775808 ≤ n) (h2 : n ≤ 9223372036854775807) : IntKind.wrap .i64 n = n := IntWalk.i64_in n ⟨h1, h2⟩
theorem w8 {n : Int} (h1 : 0 ≤ n) (h2 : n ≤ 255) : IntKind.wrap .u8 n = n := IntWalk.u8_in n ⟨h1, h2⟩
theorem wu64 {n : Int} (h1 : 0 ≤ n) (h2 : n ≤ 18446744073709551615) : IntKind.wrap .u64 n = n := IntWalk.u64_in n ⟨h1, h2⟩
theorem ble_t {a b : Nat} (h : a ≤ b) : Nat.ble a b = true := by rw [Nat.ble_eq]; exact h
theorem ok64 {n : Int} (h : okD (.int .i64) n) : -9223372036854775808 ≤ n ∧ n ≤ 9223372036854775807 := by
  have := okD_int.1 h
  simpa [Lit.wf, IntKind.min, IntKind.max, IntKind.bits, IntKind.signed, i_] using this
theorem not_t {p : Prop} [Decidable p] (h : ¬p) : (!decide p) = true := by simp [h]
theorem not_f {p : Prop} [Decidable p] (h : p) : (!decide p) = false := by simp [h]
def inn (n : Int) (ns : List Int) : Prop := 0 ≤ n ∧ n < (ns.length : Int)
instance (n : Int) (ns : List Int) : Decidable (inn n ns) := by unfold inn; infer_instance
theorem clone_ {ns : List Int} (h : ns.length ≤ 4194304) (k : List Int → Option Bool) : slices_Clone_int64_int64v1 ns k = k ns := by
  unfold slices_Clone_int64_int64v1 slices_Clone_int64_int64v1.body
  rw [ble_t (by omega)]
  cases ns <;> simp
theorem size_ (ns : List Int) (k : Int → Bool → List Int → Option Bool) : memory_Memory_Sizev2 true ns k = k (ns.length : Int) true ns := by
  unfold memory_Memory_Sizev2 memory_Memory_Sizev2.body; simp
theorem load_ (n : Int) (ns : List Int) (k : Int → Bool → Bool → List Int → Option Bool) : memory_Memory_Loadv2 n true ns k = if inn n ns then k (ns.getD n.toNat 0) true true ns else k 0 false true ns := by
  unfold memory_Memory_Loadv2 memory_Memory_Loadv2.body memory_Memory_atv4 memory_Memory_atv4.body
  simp only [size_]
  by_cases h : n < 0
  · rw [if_neg (by unfold inn; omega)]
    simp [h]
  · by_cases h2 : n < (ns.length : Int)
    · have h3 : 0 ≤ n := by omega
      have h4 : ¬ n ≥ (ns.length : Int) := by omega
      rw [if_pos (by unfold inn; omega)]
      simp [h, h2, h3, h4, memory_Memory_Loadfn1, memory_Memory_Loadfn1.body]
    · have h4 : n ≥ (ns.length : Int) := by omega
      rw [if_neg (by unfold inn; omega)]
      simp [h, h2, h4]
theorem store_ (n v : Int) (ns : List Int) (k : Bool → Bool → List Int → Option Bool) : memory_Memory_Storev2 n v true ns k = if inn n ns then k true true (ns.set n.toNat v) else k false true ns := by
  unfold memory_Memory_Storev2 memory_Memory_Storev2.body memory_Memory_atv5 memory_Memory_atv5.body
  simp only [size_]
  by_cases h : n < 0
  · rw [if_neg (by unfold inn; omega)]
    simp [h]
  · by_cases h2 : n < (ns.length : Int)
    · have h3 : 0 ≤ n := by omega
      have h4 : ¬ n ≥ (ns.length : Int) := by omega
      rw [if_pos (by unfold inn; omega)]
      simp [h, h2, h3, h4, memory_Memory_Storefn1, memory_Memory_Storefn1.body]
    · have h4 : n ≥ (ns.length : Int) := by omega
      rw [if_neg (by unfold inn; omega)]
      simp [h, h2, h4]
theorem item_ {n i : Int} {ns : List Int} (hl : ns.length ≤ 4194304) (hn : -9223372036854775808 ≤ n ∧ n ≤ 9223372036854775807) (k : Int → Int → Bool → List Int → Option Bool) :
    memory_Memory_Itemv2 n i true ns k = if inn n ns then (if i < 0 ∨ ns.getD n.toNat 0 ≤ i then k 0 1 true ns else if (ns.length : Int) - 1 - n ≤ i then k 0 2 true ns else k (n + 1 + i) 0 true ns) else k 0 2 true ns := by
  unfold memory_Memory_Itemv2 memory_Memory_Itemv2.body
  rw [load_]
  by_cases h : inn n ns
  · rw [if_pos h, if_pos h]
    unfold inn at h
    simp only [size_]
    rw [w64 (n := (ns.length : Int) - 1) (by omega) (by omega), w64 (n := (ns.length : Int) - 1 - n) (by omega) (by omega), w64 (n := n + 1) (by omega) (by omega)]
    by_cases h1 : i < 0
    · rw [if_pos (.inl h1)]
      simp [h1]
    · by_cases h2 : ns.getD n.toNat 0 ≤ i
      · rw [if_pos (.inr h2), cond_neg (b := !true) rfl, cond_pos (not_t h1), cond_pos (decide_eq_true h2)]
      · rw [if_neg (by rintro (h | h); exact h1 h; exact h2 h), cond_neg (b := !true) rfl, cond_pos (not_t h1), cond_neg (decide_eq_false h2)]
        by_cases h3 : (ns.length : Int) - 1 - n ≤ i
        · rw [if_pos h3, cond_pos (decide_eq_true h3)]
        · rw [if_neg h3, cond_neg (decide_eq_false h3), w64 (by omega) (by omega)]
  · rw [if_neg h, if_neg h]
    simp
theorem clone0_ {ns : List Int} (h : ns.length ≤ 4194304) (k : List Int → Option Bool) : slices_Clone_int64_int64 ns k = k ns := by
  unfold slices_Clone_int64_int64 slices_Clone_int64_int64.body
  rw [ble_t (by omega)]
  cases ns <;> simp
theorem holds (ns : List Int) (a n : Int) (h0 : okD (.sl 2 (.int .i64)) ns) (h1 : okD (.int .i64) a) (h2 : okD (.int .i64) n) : law38_MemoryApart ns a n (fun y => some y) = some true := by
  unfold law38_MemoryApart law38_MemoryApart.body law38_known
  by_cases hl : (ns.length : Int) > 200
  · rw [cond_neg (by simpa using hl)]
  · rw [cond_pos (by simpa using hl)]
    by_cases g1 : a < 0
    · rw [cond_neg (by simpa using g1)]
    · rw [cond_pos (by simpa using g1)]
      by_cases g2 : a ≥ (ns.length : Int)
      · rw [cond_pos (by simpa using g2)]
      · rw [cond_neg (by simpa using g2), ble_t (by omega)]
        unfold memory_New memory_New.body
        have hin : inn a ns := by unfold inn; omega
        have hin2 : inn a (ns.set a.toNat n) := by unfold inn; rw [List.length_set]; omega
        rw [clone0_ (by omega), cond_t]
        dsimp only
        have g3 : decide (0 ≤ a) = true := by simp; omega
        have g4 : decide (a < (ns.length : Int)) = true := by simp; omega
        rw [store_, if_pos hin, g3, g4]
        simp only [Bool.and_self, cond_t, Bool.not_true, Bool.not_false]
        rw [cond_neg (by simp), load_, if_pos hin2]
        have e1 : (ns.set a.toNat n).getD a.toNat 0 = n := by
          rw [List.getD_eq_getElem?_getD, List.getElem?_set_self (by omega)]; rfl
        rw [e1]
        simp

end Go.Proofs.Ytbnkdfoolfpllaa.memoryApart
