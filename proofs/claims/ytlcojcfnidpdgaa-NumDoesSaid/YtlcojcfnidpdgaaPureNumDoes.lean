/- NumDoes of the layer num: for all three numbers of 64 bits the law answers true. No conditions. -/
import Derived.Test.YtlcojcfnidpdgaaPGx2
namespace Go.Proofs.Ytlcojcfnidpdgaa.Pure
open Go.RowKit Go.Proofs.Ytlcojcfnidpdgaa.PG Go.Proofs.YtlcojcfnidpdgaaW.PrintWords Go.Proofs.YtlcojcfnidpdgaaW.PrintLast

theorem wf64 {a : Int} (h : (Lit.int .i64 a).wf = true) : -9223372036854775808 ≤ a ∧ a ≤ 9223372036854775807 := by
  simp only [Lit.wf, IntKind.min, IntKind.max, IntKind.signed, IntKind.bits, Bool.and_eq_true, decide_eq_true_eq, if_true] at h
  exact ⟨by omega, by omega⟩
theorem w64 {a : Int} (h : -9223372036854775808 ≤ a ∧ a ≤ 9223372036854775807) : wrap64 a = a := by unfold wrap64; omega
theorem w64_rng (a : Int) : -9223372036854775808 ≤ wrap64 a ∧ wrap64 a ≤ 9223372036854775807 := by unfold wrap64; omega
theorem known_ok : sheerleglaw01_known.f 10 = some true := by decide +kernel
theorem do4 (b c : Int) : num_Do.f 4 b c = some (wrap64 (b + c), true) := rfl
theorem do5 (b c : Int) : num_Do.f 5 b c = some (wrap64 (b - c), true) := rfl
theorem do6 (b c : Int) : num_Do.f 6 b c = some (wrap64 (b * c), true) := rfl
theorem do9 (b c : Int) : num_Do.f 9 b c = some (if b < c then 1 else 0, true) := rfl
theorem do10 (b c : Int) : num_Do.f 10 b c = some (if b = c then 1 else 0, true) := rfl
def quot (b c : Int) : Int := if c = -1 then wrap64 (-b) else wrap64 (Int.tdiv b c)
theorem quot_ok (b c : Int) (h : c ≠ 0) : num_quotient.f b c = some (quot b c) := by
  unfold num_quotient.f quot
  by_cases h1 : c = -1
  · rw [if_pos h1, if_pos h1]
  · rw [if_neg h1, if_neg h, if_neg h1]
theorem do7 (b c : Int) (h : c ≠ 0) : num_Do.f 7 b c = some (quot b c, true) := by
  show (if c = 0 then _ else _) = _
  rw [if_neg h, quot_ok b c h]; rfl
theorem do70 (b : Int) : num_Do.f 7 b 0 = some (0, false) := rfl
theorem do80 (b : Int) : num_Do.f 8 b 0 = some (0, false) := rfl
theorem do8 (b c : Int) (h : c ≠ 0) : num_Do.f 8 b c = some (wrap64 (b - wrap64 (c * quot b c)), true) := by
  show (if c = 0 then _ else _) = _
  rw [if_neg h]; unfold num_rest.f; rw [quot_ok b c h]; rfl
theorem do_out (a b c : Int) (h : ¬ (4 ≤ a ∧ a ≤ 10)) : num_Do.f a b c = some (0, false) := by
  unfold num_Do.f
  rw [if_neg (by omega), if_neg (by omega), if_neg (by omega), if_neg (by omega), if_neg (by omega), if_neg (by omega), if_neg (by omega)]
theorem div_ok (b c : Int) (h : c ≠ 0) : sheerlegref01_Div.f b c = some (quot b c) := quot_ok b c h
theorem ref_ok (a b c : Int) : sheerlegref01_Do.f 10 a b c = num_Do.f a b c := by
  by_cases h : 4 ≤ a ∧ a ≤ 10
  · have : a = 4 ∨ a = 5 ∨ a = 6 ∨ a = 7 ∨ a = 8 ∨ a = 9 ∨ a = 10 := by omega
    rcases this with rfl | rfl | rfl | rfl | rfl | rfl | rfl
    · rfl
    · rfl
    · rfl
    · by_cases h0 : c = 0
      · subst h0; rfl
      · rw [do7 _ _ h0]
        show (if c = 0 then _ else sheerlegref01_Do.j0 10 7 b c false) = _
        rw [if_neg h0]
        show (sheerlegref01_Div.f b c).bind _ = _
        rw [div_ok _ _ h0]; rfl
    · by_cases h0 : c = 0
      · subst h0; rfl
      · rw [do8 _ _ h0]
        show (if c = 0 then _ else sheerlegref01_Do.j0 10 8 b c false) = _
        rw [if_neg h0]
        show (sheerlegref01_Div.f b c).bind _ = _
        rw [div_ok _ _ h0]; rfl
    · rw [do9]
      show (if b < c then some ((1 : Int), true) else some (0, true)) = _
      split <;> rfl
    · rw [do10]
      show (if b = c then some ((1 : Int), true) else some (0, true)) = _
      split <;> rfl
  · rw [do_out _ _ _ h]
    unfold sheerlegref01_Do.f
    rw [if_neg (by omega), if_neg (by omega), if_neg (by omega), if_neg (by omega), if_neg (by omega)]
    by_cases h0 : c = 0
    · rw [if_pos h0]; rfl
    · rw [if_neg h0, if_neg (by omega)]
      have : (a != 8) = true := by simp; omega
      rw [this]; rfl

theorem some_ok (a b c : Int) : ∃ p, num_Do.f a b c = some p := by
  by_cases h : 4 ≤ a ∧ a ≤ 10
  · have : a = 4 ∨ a = 5 ∨ a = 6 ∨ a = 7 ∨ a = 8 ∨ a = 9 ∨ a = 10 := by omega
    rcases this with rfl | rfl | rfl | rfl | rfl | rfl | rfl
    · exact ⟨_, do4 _ _⟩
    · exact ⟨_, do5 _ _⟩
    · exact ⟨_, do6 _ _⟩
    · by_cases h0 : c = 0
      · subst h0; exact ⟨_, do70 _⟩
      · exact ⟨_, do7 _ _ h0⟩
    · by_cases h0 : c = 0
      · subst h0; exact ⟨_, do80 _⟩
      · exact ⟨_, do8 _ _ h0⟩
    · exact ⟨_, do9 _ _⟩
    · exact ⟨_, do10 _ _⟩
  · exact ⟨_, do_out _ _ _ h⟩

theorem NumDoes : sheerleglaw01_NumDoes.Pure := by
  intro a b c _ _ _
  refine ⟨10, ?_⟩
  obtain ⟨p, hp⟩ := some_ok a b c
  unfold sheerleglaw01_NumDoes.f
  rw [ref_ok, hp]
  simp only [Option.bind_some]
  rw [if_pos trivial, if_pos (by simp), known_ok]; rfl

end Go.Proofs.Ytlcojcfnidpdgaa.Pure
