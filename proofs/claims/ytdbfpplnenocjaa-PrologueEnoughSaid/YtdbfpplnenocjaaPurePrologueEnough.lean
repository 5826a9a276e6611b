/- PrologueEnough of the layer prologue: for all four numbers (three of 16 bits, one of 8) the law answers true. No conditions. -/
import Derived.Test.YtdbfpplnenocjaaPGx5
namespace Go.Proofs.Ytdbfpplnenocjaa.Pure
open Go.RowKit Go.Proofs.Ytdbfpplnenocjaa.PG Go.Proofs.YtdbfpplnenocjaaW.PrintWords Go.Proofs.YtdbfpplnenocjaaW.PrintLast

theorem wf64 {a : Int} (h : (Lit.int .i64 a).wf = true) : -9223372036854775808 ≤ a ∧ a ≤ 9223372036854775807 := by
  simp only [Lit.wf, IntKind.min, IntKind.max, IntKind.signed, IntKind.bits, Bool.and_eq_true, decide_eq_true_eq, if_true] at h
  exact ⟨by omega, by omega⟩
theorem w64 {a : Int} (h : -9223372036854775808 ≤ a ∧ a ≤ 9223372036854775807) : wrap64 a = a := by unfold wrap64; omega
theorem w64_rng (a : Int) : -9223372036854775808 ≤ wrap64 a ∧ wrap64 a ≤ 9223372036854775807 := by unfold wrap64; omega
theorem wfu16 {a : Int} (h : (Lit.int .u16 a).wf = true) : 0 ≤ a ∧ a ≤ 65535 := by
  simp only [Lit.wf, IntKind.min, IntKind.max, IntKind.signed, IntKind.bits, Bool.and_eq_true, decide_eq_true_eq] at h
  exact ⟨by simpa using h.1, by have := h.2; simp at this; omega⟩
theorem wfu8 {a : Int} (h : (Lit.int .u8 a).wf = true) : 0 ≤ a ∧ a ≤ 255 := by
  simp only [Lit.wf, IntKind.min, IntKind.max, IntKind.signed, IntKind.bits, Bool.and_eq_true, decide_eq_true_eq] at h
  exact ⟨by simpa using h.1, by have := h.2; simp at this; omega⟩
theorem u64w {a : Int} (h : 0 ≤ a ∧ a ≤ 18446744073709551615) : IntKind.u64.wrap a = a := by
  simp [IntKind.wrap, IntKind.signed, IntKind.bits]; omega
def pass (c sp g n : Int) : Bool := decide (sp ≥ g ∧ (c = 1 ∨ n ≤ 8 ∨ sp - g ≥ n - 8))
theorem pass_eq (c sp g n : Int) (hc : c = 1 ∨ c = 2 ∨ c = 3) (hs : 0 ≤ sp ∧ sp ≤ 65535) (hg : 0 ≤ g ∧ g ≤ 65535) (hn : 0 ≤ n ∧ n ≤ 65535) : prologue_Passes.f c sp g n = some (pass c sp g n) := by
  unfold prologue_Passes.f pass
  by_cases h1 : c = 1
  · rw [if_neg (by omega), if_neg (by omega), if_pos h1]; congr 1; simp [h1]
  · have key : (if n > 8 then (if sp ≥ g then (if (IntKind.u64.wrap ((IntKind.u64.wrap sp) - (IntKind.u64.wrap g))) < (IntKind.u64.wrap (wrap64 (n - 8))) then some false else some (decide (sp ≥ g))) else some (decide (sp ≥ g))) else some (decide (sp ≥ g))) = some (decide (sp ≥ g ∧ (c = 1 ∨ n ≤ 8 ∨ sp - g ≥ n - 8))) := by
      by_cases h2 : n > 8
      · rw [if_pos h2]
        by_cases h3 : sp ≥ g
        · rw [if_pos h3, u64w (a := sp) (by omega), u64w (a := g) (by omega), u64w (a := sp - g) (by omega), w64 (by omega), u64w (a := n - 8) (by omega)]
          by_cases h4 : sp - g < n - 8
          · rw [if_pos h4, decide_eq_false (by omega)]
          · rw [if_neg h4, decide_eq_true h3, decide_eq_true (by omega)]
        · rw [if_neg h3, decide_eq_false h3, decide_eq_false (by omega)]
      · rw [if_neg h2]
        by_cases h3 : sp ≥ g
        · rw [decide_eq_true h3, decide_eq_true (by omega)]
        · rw [decide_eq_false h3, decide_eq_false (by omega)]
    rcases hc with h | h | h
    · exact absurd h h1
    · rw [if_neg (by omega), if_pos h]; exact key
    · rw [if_pos h]; exact key
theorem cost_eq (c : Int) (hc : 1 ≤ c ∧ c ≤ 3) : prologue_Cost.f c = some c := by
  unfold prologue_Cost.f; rw [if_neg (by omega), if_neg (by omega)]
theorem PrologueEnough : sheerleglaw28_PrologueEnough.Pure := by
  intro sp g n cl h0 h1 h2 h3
  have h0 := wfu16 h0
  have h1 := wfu16 h1
  have h2 := wfu16 h2
  have h3 := wfu8 h3
  refine ⟨100, ?_⟩
  have hk : sheerleglaw28_known.f 99 = some true := by decide +kernel
  unfold sheerleglaw28_PrologueEnough.f
  rw [w64 (a := n) (by omega)]
  obtain ⟨c, hc, hr⟩ : ∃ c, prologue_Least.f n = some c ∧ ((c = 1 ∧ n ≤ 8) ∨ (c = 2 ∧ 8 < n) ∨ (c = 3 ∧ 64 < n)) := by
    unfold prologue_Least.f
    by_cases e : n ≤ 8
    · rw [if_pos e]; exact ⟨1, rfl, by omega⟩
    · rw [if_neg e]
      by_cases e2 : n ≤ 64
      · rw [if_pos e2]; exact ⟨2, rfl, by omega⟩
      · rw [if_neg e2]; exact ⟨3, rfl, by omega⟩
  rw [hc]
  simp only [Option.bind_some]
  rw [if_neg (by omega), decide_eq_false (show ¬ c > 3 by omega), Int.tmod_eq_emod_of_nonneg h3.1, w64 (a := cl % 3) (by omega), w64 (a := c + cl % 3) (by omega)]
  generalize hd : c + cl % 3 = d
  have hdc : c ≤ d := by omega
  rw [sheerleglaw28_PrologueEnough.j0, if_neg (by decide)]
  by_cases hb : d > 3
  · rw [if_pos hb, hk]; rfl
  · rw [if_neg hb, w64 (a := sp) (by omega), w64 (a := g) (by omega), pass_eq c sp g n (by omega) h0 h1 h2, pass_eq d sp g n (by omega) h0 h1 h2, cost_eq d (by omega), cost_eq c (by omega)]
    have hp : pass c sp g n = pass d sp g n := by
      unfold pass
      rw [decide_eq_decide]
      omega
    simp only [Option.bind_some]
    rw [if_neg (by rw [hp]; simp), if_neg (by simp)]
    by_cases ht : pass c sp g n = true
    · rw [if_pos ht, hk]
      have := of_decide_eq_true ht
      rw [if_pos (by rw [w64 (by omega), w64 (by omega)]; omega)]; rfl
    · rw [if_neg ht, hk]; rfl

end Go.Proofs.Ytdbfpplnenocjaa.Pure
