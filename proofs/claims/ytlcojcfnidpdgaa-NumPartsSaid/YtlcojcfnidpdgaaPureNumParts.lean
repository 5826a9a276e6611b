/- NumParts of the layer num: for all two numbers of 64 bits the law answers true. No conditions. -/
import Derived.Test.YtlcojcfnidpdgaaPGx3
namespace Go.Proofs.Ytlcojcfnidpdgaa.Pure
open Go.RowKit Go.Proofs.Ytlcojcfnidpdgaa.PG Go.Proofs.YtlcojcfnidpdgaaW.PrintWords Go.Proofs.YtlcojcfnidpdgaaW.PrintLast

theorem wf64 {a : Int} (h : (Lit.int .i64 a).wf = true) : -9223372036854775808 ≤ a ∧ a ≤ 9223372036854775807 := by
  simp only [Lit.wf, IntKind.min, IntKind.max, IntKind.signed, IntKind.bits, Bool.and_eq_true, decide_eq_true_eq, if_true] at h
  exact ⟨by omega, by omega⟩
theorem w64 {a : Int} (h : -9223372036854775808 ≤ a ∧ a ≤ 9223372036854775807) : wrap64 a = a := by unfold wrap64; omega
theorem w64_rng (a : Int) : -9223372036854775808 ≤ wrap64 a ∧ wrap64 a ≤ 9223372036854775807 := by unfold wrap64; omega
theorem known_ok : sheerleglaw01_known.f 10 = some true := by decide +kernel
theorem do4 (b c : Int) : num_Do.f 4 b c = some (wrap64 (b + c), true) := rfl
theorem do5 (b c : Int) : num_Do.f 5 b c = some (wrap64 (b - c), true) := rfl
theorem do6 (b c : Int) : num_Do.f 6 b c = some (wrap64 (b * c), true) := rfl
theorem do9 (b c : Int) : num_Do.f 9 b c = some (if b < c then 1 else 0, true) := rfl
theorem do10 (b c : Int) : num_Do.f 10 b c = some (if b = c then 1 else 0, true) := rfl
def quot (b c : Int) : Int := if c = -1 then wrap64 (-b) else wrap64 (Int.tdiv b c)
theorem quot_ok (b c : Int) (h : c ≠ 0) : num_quotient.f b c = some (quot b c) := by
  unfold num_quotient.f quot
  by_cases h1 : c = -1
  · rw [if_pos h1, if_pos h1]
  · rw [if_neg h1, if_neg h, if_neg h1]
theorem do7 (b c : Int) (h : c ≠ 0) : num_Do.f 7 b c = some (quot b c, true) := by
  show (if c = 0 then _ else _) = _
  rw [if_neg h, quot_ok b c h]; rfl
theorem do70 (b : Int) : num_Do.f 7 b 0 = some (0, false) := rfl
theorem do80 (b : Int) : num_Do.f 8 b 0 = some (0, false) := rfl
theorem do8 (b c : Int) (h : c ≠ 0) : num_Do.f 8 b c = some (wrap64 (b - wrap64 (c * quot b c)), true) := by
  show (if c = 0 then _ else _) = _
  rw [if_neg h]; unfold num_rest.f; rw [quot_ok b c h]; rfl
theorem do_out (a b c : Int) (h : ¬ (4 ≤ a ∧ a ≤ 10)) : num_Do.f a b c = some (0, false) := by
  unfold num_Do.f
  rw [if_neg (by omega), if_neg (by omega), if_neg (by omega), if_neg (by omega), if_neg (by omega), if_neg (by omega), if_neg (by omega)]
theorem wmul (a b : Int) : wrap64 (a * wrap64 b) = wrap64 (a * b) := by
  have : ∃ q, wrap64 b = b + 18446744073709551616 * q := ⟨-((b + 9223372036854775808) / 18446744073709551616), by unfold wrap64; omega⟩
  obtain ⟨q, hq⟩ := this
  rw [hq, Int.mul_add, show a * (18446744073709551616 * q) = 18446744073709551616 * (a * q) by rw [Int.mul_left_comm]]
  generalize a * b = x; generalize a * q = y
  unfold wrap64; omega
theorem wback (b x : Int) (hb : -9223372036854775808 ≤ b ∧ b ≤ 9223372036854775807) : wrap64 (x + wrap64 (b - x)) = b := by unfold wrap64; omega
theorem tmod_rng (b c : Int) (h : c ≠ 0) : (0 ≤ b → 0 ≤ Int.tmod b c ∧ Int.tmod b c ≤ b) ∧ (b ≤ 0 → b ≤ Int.tmod b c ∧ Int.tmod b c ≤ 0) ∧ (0 < c → Int.tmod b c < c ∧ -c < Int.tmod b c) ∧ (c < 0 → Int.tmod b c < -c ∧ c < Int.tmod b c) := by
  have e : (Int.tmod b c).natAbs = b.natAbs % c.natAbs := Int.natAbs_tmod ..
  have e1 : b.natAbs % c.natAbs < c.natAbs := Nat.mod_lt _ (by omega)
  have e2 : b.natAbs % c.natAbs ≤ b.natAbs := Nat.mod_le ..
  have s1 : 0 ≤ b → 0 ≤ Int.tmod b c := fun hh => Int.tmod_nonneg _ hh
  have s2 : b ≤ 0 → Int.tmod b c ≤ 0 := fun hh => by
    have := Int.tmod_nonneg c (a := -b) (by omega)
    rw [Int.neg_tmod] at this; omega
  refine ⟨fun hh => ?_, fun hh => ?_, fun hh => ?_, fun hh => ?_⟩
  · have := s1 hh; omega
  · have := s2 hh; omega
  · omega
  · omega
/-- what is left -/
def left_ (b c : Int) : Int := if c = -1 then 0 else Int.tmod b c
theorem left_ok (b c : Int) (h : c ≠ 0) (hb : -9223372036854775808 ≤ b ∧ b ≤ 9223372036854775807) : wrap64 (b - wrap64 (c * quot b c)) = left_ b c := by
  unfold quot left_
  by_cases h1 : c = -1
  · rw [if_pos h1, if_pos h1, wmul, h1, show (-1 : Int) * -b = b by omega, w64 hb, Int.sub_self]; decide +kernel
  · rw [if_neg h1, if_neg h1, wmul]
    have e := Int.mul_tdiv_add_tmod b c
    have r := tmod_rng b c h
    generalize c * Int.tdiv b c = x at *
    generalize Int.tmod b c = y at *
    unfold wrap64; omega
theorem left_rng (b c : Int) (h : c ≠ 0) : (0 ≤ b → 0 ≤ left_ b c ∧ left_ b c ≤ b) ∧ (b ≤ 0 → b ≤ left_ b c ∧ left_ b c ≤ 0) ∧ (0 < c → left_ b c < c ∧ -c < left_ b c) ∧ (c < 0 → left_ b c < -c ∧ c < left_ b c) := by
  unfold left_
  by_cases h1 : c = -1
  · rw [if_pos h1]; subst h1; omega
  · rw [if_neg h1]; exact tmod_rng b c h
theorem parts_sum (b c : Int) (h : c ≠ 0) (hb : -9223372036854775808 ≤ b ∧ b ≤ 9223372036854775807) : wrap64 (wrap64 (quot b c * c) + left_ b c) = b := by
  rw [← left_ok b c h hb, Int.mul_comm]
  generalize c * quot b c = x
  unfold wrap64; omega

theorem NumParts : sheerleglaw01_NumParts.Pure := by
  intro b c hb hc
  have hb := wf64 hb
  have hc := wf64 hc
  refine ⟨10, ?_⟩
  unfold sheerleglaw01_NumParts.f
  by_cases h : c = 0
  · subst h
    rw [do70, do80, known_ok]; rfl
  · rw [do7 _ _ h, do8 _ _ h, left_ok b c h hb, known_ok]
    simp only [Option.bind_some, if_neg h, if_true]
    rw [parts_sum b c h hb]
    have R := left_rng b c h
    have hs : left_ b c ≠ 0 → (decide (left_ b c < 0) == decide (b < 0)) = true := by
      intro h0
      by_cases hz : b < 0
      · rw [decide_eq_true hz, decide_eq_true (by omega)]; rfl
      · rw [decide_eq_false hz, decide_eq_false (by omega)]; rfl
    have hn : c ≠ -9223372036854775808 → wrap64 (-c) = -c := fun hh => w64 (by omega)
    generalize left_ b c = y at *
    by_cases hm : c = -9223372036854775808
    · rw [if_pos hm]
      by_cases h0 : y = 0
      · simp [h0]
      · simp [h0, hs h0]
    · rw [if_neg hm, hn hm]
      by_cases h0 : y = 0
      · subst h0
        by_cases hp : c > 0
        · rw [if_pos hp, if_pos (by omega), if_pos (by omega)]; simp
        · rw [if_neg hp, if_pos (by omega), if_pos (by omega)]
          have : (0 : Int) < -c := by omega
          have hc0 : c < 0 := by omega
          simp [this, hc0]
      · by_cases hp : c > 0
        · rw [if_pos hp, if_pos (by omega), if_pos (by omega)]; simp [h0, hs h0]
        · rw [if_neg hp, if_pos (by omega), if_pos (by omega)]
          have : y < -c := by omega
          have hc0 : c < 0 := by omega
          simp [this, h0, hs h0, hc0]

end Go.Proofs.Ytlcojcfnidpdgaa.Pure
