/- PrologueChecks of the layer prologue: for all four numbers of 64 bits the law answers true. No conditions. -/
import Derived.Test.YtdbfpplnenocjaaPGx5
namespace Go.Proofs.Ytdbfpplnenocjaa.Pure
open Go.RowKit Go.Proofs.Ytdbfpplnenocjaa.PG Go.Proofs.YtdbfpplnenocjaaW.PrintWords Go.Proofs.YtdbfpplnenocjaaW.PrintLast

theorem wf64 {a : Int} (h : (Lit.int .i64 a).wf = true) : -9223372036854775808 ≤ a ∧ a ≤ 9223372036854775807 := by
  simp only [Lit.wf, IntKind.min, IntKind.max, IntKind.signed, IntKind.bits, Bool.and_eq_true, decide_eq_true_eq, if_true] at h
  exact ⟨by omega, by omega⟩
theorem w64 {a : Int} (h : -9223372036854775808 ≤ a ∧ a ≤ 9223372036854775807) : wrap64 a = a := by unfold wrap64; omega
theorem w64_rng (a : Int) : -9223372036854775808 ≤ wrap64 a ∧ wrap64 a ≤ 9223372036854775807 := by unfold wrap64; omega
theorem passes_both (a0 a1 a2 a3 : Int) : ∃ p, prologue_Passes.f a0 a1 a2 a3 = some p ∧ sheerlegref28_Passes.f 100 a0 a1 a2 a3 = some p := by
  have hJ : sheerlegref28_Passes.j0 100 a0 a1 a2 a3 false = if a0 = 1 then some true else if a3 ≤ 8 then some true else some (decide (IntKind.u64.wrap (IntKind.u64.wrap a1 - IntKind.u64.wrap a2) ≥ IntKind.u64.wrap (wrap64 (a3 - 8)))) := rfl
  have hT : sheerlegref28_Passes.j0 100 a0 a1 a2 a3 true = some false := rfl
  unfold prologue_Passes.f sheerlegref28_Passes.f
  generalize IntKind.u64.wrap (IntKind.u64.wrap a1 - IntKind.u64.wrap a2) = u at hJ ⊢
  generalize IntKind.u64.wrap (wrap64 (a3 - 8)) = v at hJ ⊢
  by_cases h0 : a0 = 0
  · subst h0
    rw [if_neg (by decide), if_neg (by decide), if_neg (by decide), if_pos rfl]; exact ⟨_, rfl, rfl⟩
  · rw [if_neg h0]
    by_cases h1 : a0 < 0 ∨ a0 > 3
    · have hz : (a0 == 0) = false := beq_eq_false_iff_ne.mpr h0
      rw [if_neg (show ¬ a0 = 3 by omega), if_neg (show ¬ a0 = 2 by omega), if_neg (show ¬ a0 = 1 by omega), hz]
      by_cases h2 : a0 < 0
      · rw [if_pos h2]; exact ⟨_, rfl, rfl⟩
      · rw [if_neg h2, if_pos (by omega)]; exact ⟨_, rfl, rfl⟩
    · rw [if_neg (show ¬ a0 < 0 by omega), if_neg (show ¬ a0 > 3 by omega)]
      by_cases h2 : a1 < a2
      · refine ⟨false, ?_, by
          rw [decide_eq_true h2, hT]⟩
        have h3 : ¬ a1 ≥ a2 := by omega
        rw [decide_eq_false h3]
        by_cases e3 : a0 = 3
        · rw [if_pos e3]; split <;> first | rfl | rw [if_neg h3]
        · rw [if_neg e3]
          by_cases e2 : a0 = 2
          · rw [if_pos e2]; split <;> first | rfl | rw [if_neg h3]
          · rw [if_neg e2, if_pos (by omega)]
      · have h3 : a1 ≥ a2 := by omega
        rw [decide_eq_false h2, decide_eq_true h3]
        rw [hJ]
        by_cases e1 : a0 = 1
        · rw [if_neg (show ¬ a0 = 3 by omega), if_neg (show ¬ a0 = 2 by omega), if_pos e1, if_pos e1]; exact ⟨_, rfl, rfl⟩
        · rw [if_neg e1, if_neg e1]
          have key : (if a3 > 8 then (if a1 ≥ a2 then (if u < v then some false else some true) else some true) else some true) = (if a3 ≤ 8 then some true else some (decide (u ≥ v))) := by
            by_cases e : a3 > 8
            · rw [if_pos e, if_pos h3, if_neg (show ¬ a3 ≤ 8 by omega)]
              by_cases e2 : u < v
              · rw [if_pos e2, decide_eq_false (by omega)]
              · rw [if_neg e2, decide_eq_true (by omega)]
            · rw [if_neg e, if_pos (by omega)]
          by_cases e3 : a0 = 3
          · rw [if_pos e3, key]; split <;> exact ⟨_, rfl, rfl⟩
          · rw [if_neg e3, if_pos (by omega), key]; split <;> exact ⟨_, rfl, rfl⟩
theorem PrologueChecks : sheerleglaw28_PrologueChecks.Pure := by
  intro a0 a1 a2 a3 _ _ _ _
  refine ⟨100, ?_⟩
  have hk : sheerleglaw28_known.f 100 = some true := by decide +kernel
  obtain ⟨p, hp, hq⟩ := passes_both a0 a1 a2 a3
  obtain ⟨l, hl, hl2⟩ : ∃ l, prologue_Least.f a3 = some l ∧ sheerlegref28_Least.f a3 = some l := by
    unfold prologue_Least.f sheerlegref28_Least.f
    split
    · exact ⟨_, rfl, rfl⟩
    · split <;> exact ⟨_, rfl, rfl⟩
  obtain ⟨c, hc, hc2⟩ : ∃ l, prologue_Cost.f a0 = some l ∧ sheerlegref28_Cost.f a0 = some l := by
    unfold prologue_Cost.f sheerlegref28_Cost.f
    split
    · exact ⟨_, rfl, rfl⟩
    · split <;> exact ⟨_, rfl, rfl⟩
  unfold sheerleglaw28_PrologueChecks.f
  rw [hp, hq, hl, hl2, hc, hc2, hk]
  simp

end Go.Proofs.Ytdbfpplnenocjaa.Pure
