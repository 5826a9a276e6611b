/- OpBack of the layer op: for every number of 64 bits the law answers true. No conditions. -/
import Derived.Test.YtffcgkfdjifjkaaPGx5
namespace Go.Proofs.Ytffcgkfdjifjkaa.Pure
open Go.RowKit Go.Proofs.Ytffcgkfdjifjkaa.PG Go.Proofs.YtffcgkfdjifjkaaW.PrintWords Go.Proofs.YtffcgkfdjifjkaaW.PrintLast

theorem wf64 {a : Int} (h : (Lit.int .i64 a).wf = true) : -9223372036854775808 ≤ a ∧ a ≤ 9223372036854775807 := by
  simp only [Lit.wf, IntKind.min, IntKind.max, IntKind.signed, IntKind.bits, Bool.and_eq_true, decide_eq_true_eq, if_true] at h
  exact ⟨by omega, by omega⟩
theorem w64 {a : Int} (h : -9223372036854775808 ≤ a ∧ a ≤ 9223372036854775807) : wrap64 a = a := by unfold wrap64; omega
theorem w64_rng (a : Int) : -9223372036854775808 ≤ wrap64 a ∧ wrap64 a ≤ 9223372036854775807 := by unfold wrap64; omega
theorem known_ok : sheerleglaw07_known.f 60 = some true := by decide +kernel
theorem name_out (n : Int) (h : n < 1 ∨ 28 < n) : op_Name.f n = some (⟨#[]⟩ : ByteArray) := by
  unfold op_Name.f
  by_cases h0 : n < 1
  · rw [if_pos h0]
  · rw [if_neg h0, if_pos (by omega)]
theorem own_out (n : Int) (h : n < 1 ∨ 24 < n) : op_Own.f n = some false := by
  unfold op_Own.f
  by_cases h0 : n ≥ 1
  · rw [if_pos h0, decide_eq_false (by omega)]
  · rw [if_neg h0]
theorem shape_out (n : Int) (h : n < 1 ∨ 24 < n) : op_Shape.f n = some (⟨#[]⟩ : ByteArray) := by
  unfold op_Shape.f; rw [own_out n h]; rfl
theorem need_out (k : Nat) (n : Int) (h : n < 1 ∨ 24 < n) : op_Need.f (k + 1) n = some 0 := by
  unfold op_Need.f
  rw [if_neg (by omega), if_neg (by omega), if_neg (by omega), show (n == 16) = false from beq_eq_false_iff_ne.mpr (by omega), op_Need.j0, if_neg (by decide), if_neg (by omega), if_neg (by omega)]
theorem ends_out (n : Int) (h : n < 1 ∨ 24 < n) : op_Ends.f n = some false := by
  unfold op_Ends.f
  rw [if_neg (by omega), if_neg (by omega), show (n == 24) = false from beq_eq_false_iff_ne.mpr (by omega)]
theorem OpBack : sheerleglaw07_OpBack.Pure := by
  intro n _
  refine ⟨60, ?_⟩
  by_cases h : 1 ≤ n ∧ n ≤ 28
  · have h2 : n = 1 ∨ n = 2 ∨ n = 3 ∨ n = 4 ∨ n = 5 ∨ n = 6 ∨ n = 7 ∨ n = 8 ∨ n = 9 ∨ n = 10 ∨ n = 11 ∨ n = 12 ∨ n = 13 ∨ n = 14 ∨ n = 15 ∨ n = 16 ∨ n = 17 ∨ n = 18 ∨ n = 19 ∨ n = 20 ∨ n = 21 ∨ n = 22 ∨ n = 23 ∨ n = 24 ∨ n = 25 ∨ n = 26 ∨ n = 27 ∨ n = 28 := by omega
    rcases h2 with rfl | rfl | rfl | rfl | rfl | rfl | rfl | rfl | rfl | rfl | rfl | rfl | rfl | rfl | rfl | rfl | rfl | rfl | rfl | rfl | rfl | rfl | rfl | rfl | rfl | rfl | rfl | rfl <;> decide +kernel
  · unfold sheerleglaw07_OpBack.f
    rw [shape_out n (by omega), name_out n (by omega), own_out n (by omega), need_out 59 n (by omega), ends_out n (by omega), known_ok]
    simp only [Option.bind_some]
    rw [if_pos (by decide +kernel), if_pos (by decide +kernel)]; rfl

end Go.Proofs.Ytffcgkfdjifjkaa.Pure
