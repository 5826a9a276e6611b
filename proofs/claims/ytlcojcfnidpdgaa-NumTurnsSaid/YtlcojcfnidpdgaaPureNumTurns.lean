/- NumTurns of the layer num: for all two numbers of 64 bits the law answers true. No conditions. -/
import Derived.Test.YtlcojcfnidpdgaaPGx4
namespace Go.Proofs.Ytlcojcfnidpdgaa.Pure
open Go.RowKit Go.Proofs.Ytlcojcfnidpdgaa.PG Go.Proofs.YtlcojcfnidpdgaaW.PrintWords Go.Proofs.YtlcojcfnidpdgaaW.PrintLast

theorem wf64 {a : Int} (h : (Lit.int .i64 a).wf = true) : -9223372036854775808 ≤ a ∧ a ≤ 9223372036854775807 := by
  simp only [Lit.wf, IntKind.min, IntKind.max, IntKind.signed, IntKind.bits, Bool.and_eq_true, decide_eq_true_eq, if_true] at h
  exact ⟨by omega, by omega⟩
theorem w64 {a : Int} (h : -9223372036854775808 ≤ a ∧ a ≤ 9223372036854775807) : wrap64 a = a := by unfold wrap64; omega
theorem w64_rng (a : Int) : -9223372036854775808 ≤ wrap64 a ∧ wrap64 a ≤ 9223372036854775807 := by unfold wrap64; omega
theorem known_ok : sheerleglaw01_known.f 10 = some true := by decide +kernel
theorem do4 (b c : Int) : num_Do.f 4 b c = some (wrap64 (b + c), true) := rfl
theorem do5 (b c : Int) : num_Do.f 5 b c = some (wrap64 (b - c), true) := rfl
theorem do6 (b c : Int) : num_Do.f 6 b c = some (wrap64 (b * c), true) := rfl
theorem do9 (b c : Int) : num_Do.f 9 b c = some (if b < c then 1 else 0, true) := rfl
theorem do10 (b c : Int) : num_Do.f 10 b c = some (if b = c then 1 else 0, true) := rfl
def quot (b c : Int) : Int := if c = -1 then wrap64 (-b) else wrap64 (Int.tdiv b c)
theorem quot_ok (b c : Int) (h : c ≠ 0) : num_quotient.f b c = some (quot b c) := by
  unfold num_quotient.f quot
  by_cases h1 : c = -1
  · rw [if_pos h1, if_pos h1]
  · rw [if_neg h1, if_neg h, if_neg h1]
theorem do7 (b c : Int) (h : c ≠ 0) : num_Do.f 7 b c = some (quot b c, true) := by
  show (if c = 0 then _ else _) = _
  rw [if_neg h, quot_ok b c h]; rfl
theorem do70 (b : Int) : num_Do.f 7 b 0 = some (0, false) := rfl
theorem do80 (b : Int) : num_Do.f 8 b 0 = some (0, false) := rfl
theorem do8 (b c : Int) (h : c ≠ 0) : num_Do.f 8 b c = some (wrap64 (b - wrap64 (c * quot b c)), true) := by
  show (if c = 0 then _ else _) = _
  rw [if_neg h]; unfold num_rest.f; rw [quot_ok b c h]; rfl
theorem do_out (a b c : Int) (h : ¬ (4 ≤ a ∧ a ≤ 10)) : num_Do.f a b c = some (0, false) := by
  unfold num_Do.f
  rw [if_neg (by omega), if_neg (by omega), if_neg (by omega), if_neg (by omega), if_neg (by omega), if_neg (by omega), if_neg (by omega)]
theorem NumTurns : sheerleglaw01_NumTurns.Pure := by
  intro b c hb hc
  have hb := wf64 hb
  have hc := wf64 hc
  refine ⟨10, ?_⟩
  unfold sheerleglaw01_NumTurns.f
  rw [do4, do4, do6, do6, do9, do9, do10]
  simp only [Option.bind_some]
  rw [do5]
  simp only [Option.bind_some]
  rw [if_pos (by rw [Int.add_comm]), if_pos (by unfold wrap64; omega), if_pos (by rw [Int.mul_comm])]
  rw [if_pos]
  · rw [known_ok]; rfl
  · rcases Int.lt_trichotomy b c with h | h | h
    · rw [if_pos h, if_neg (by omega), if_neg (by omega)]; decide +kernel
    · rw [if_neg (by omega), if_neg (by omega), if_pos h]; decide +kernel
    · rw [if_neg (by omega), if_pos h, if_neg (by omega)]; decide +kernel

end Go.Proofs.Ytlcojcfnidpdgaa.Pure
