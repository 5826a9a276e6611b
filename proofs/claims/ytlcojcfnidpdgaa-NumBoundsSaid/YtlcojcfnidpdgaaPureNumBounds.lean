/- NumBounds of the layer num: for all four numbers of 64 bits the law answers true. No conditions. -/
import Derived.Test.YtlcojcfnidpdgaaPGx2
namespace Go.Proofs.Ytlcojcfnidpdgaa.Pure
open Go.RowKit Go.Proofs.Ytlcojcfnidpdgaa.PG Go.Proofs.YtlcojcfnidpdgaaW.PrintWords Go.Proofs.YtlcojcfnidpdgaaW.PrintLast

theorem wf64 {a : Int} (h : (Lit.int .i64 a).wf = true) : -9223372036854775808 ≤ a ∧ a ≤ 9223372036854775807 := by
  simp only [Lit.wf, IntKind.min, IntKind.max, IntKind.signed, IntKind.bits, Bool.and_eq_true, decide_eq_true_eq, if_true] at h
  exact ⟨by omega, by omega⟩
theorem w64 {a : Int} (h : -9223372036854775808 ≤ a ∧ a ≤ 9223372036854775807) : wrap64 a = a := by unfold wrap64; omega
theorem w64_rng (a : Int) : -9223372036854775808 ≤ wrap64 a ∧ wrap64 a ≤ 9223372036854775807 := by unfold wrap64; omega
theorem known_ok : sheerleglaw01_known.f 10 = some true := by decide +kernel
theorem do4 (b c : Int) : num_Do.f 4 b c = some (wrap64 (b + c), true) := rfl
theorem do5 (b c : Int) : num_Do.f 5 b c = some (wrap64 (b - c), true) := rfl
theorem do6 (b c : Int) : num_Do.f 6 b c = some (wrap64 (b * c), true) := rfl
theorem do9 (b c : Int) : num_Do.f 9 b c = some (if b < c then 1 else 0, true) := rfl
theorem do10 (b c : Int) : num_Do.f 10 b c = some (if b = c then 1 else 0, true) := rfl
def quot (b c : Int) : Int := if c = -1 then wrap64 (-b) else wrap64 (Int.tdiv b c)
theorem quot_ok (b c : Int) (h : c ≠ 0) : num_quotient.f b c = some (quot b c) := by
  unfold num_quotient.f quot
  by_cases h1 : c = -1
  · rw [if_pos h1, if_pos h1]
  · rw [if_neg h1, if_neg h, if_neg h1]
theorem do7 (b c : Int) (h : c ≠ 0) : num_Do.f 7 b c = some (quot b c, true) := by
  show (if c = 0 then _ else _) = _
  rw [if_neg h, quot_ok b c h]; rfl
theorem do70 (b : Int) : num_Do.f 7 b 0 = some (0, false) := rfl
theorem do80 (b : Int) : num_Do.f 8 b 0 = some (0, false) := rfl
theorem do8 (b c : Int) (h : c ≠ 0) : num_Do.f 8 b c = some (wrap64 (b - wrap64 (c * quot b c)), true) := by
  show (if c = 0 then _ else _) = _
  rw [if_neg h]; unfold num_rest.f; rw [quot_ok b c h]; rfl
theorem do_out (a b c : Int) (h : ¬ (4 ≤ a ∧ a ≤ 10)) : num_Do.f a b c = some (0, false) := by
  unfold num_Do.f
  rw [if_neg (by omega), if_neg (by omega), if_neg (by omega), if_neg (by omega), if_neg (by omega), if_neg (by omega), if_neg (by omega)]
theorem double_ok (lo hi : Int) (hlo : -9223372036854775808 ≤ lo ∧ lo ≤ 9223372036854775807) (hhi : -9223372036854775808 ≤ hi ∧ hi ≤ 9223372036854775807) :
    ∀ (n : Nat) (x : Int), 1 ≤ x → x ≤ 9223372036854775807 → 9223372036854775808 ≤ x * 2 ^ n → ∃ p, num_Double.l0 (n + 1) x lo hi = some p ∧ sheerlegref01_Double.l0 (n + 1) x lo hi = some p
  | 0, x, _, h, h2 => by simp at h2; omega
  | n + 1, x, h1, hx, h2 => by
    rw [num_Double.l0, sheerlegref01_Double.l0]
    have ht : (0 ≤ hi → Int.tdiv hi 2 = hi / 2) ∧ (hi ≤ 0 → Int.tdiv hi 2 = -(-hi / 2)) := ⟨fun hh => Int.tdiv_eq_ediv_of_nonneg hh, fun hh => by rw [← Int.tdiv_eq_ediv_of_nonneg (a := -hi) (by omega), Int.neg_tdiv, Int.neg_neg]⟩
    have hd : wrap64 (Int.tdiv hi 2) = Int.tdiv hi 2 := w64 (by omega)
    rw [hd]
    generalize Int.tdiv hi 2 = hf at ht
    by_cases ha : x ≤ hi
    · rw [if_pos ha]
      by_cases hb : x ≥ lo
      · rw [if_pos hb, if_neg (by omega), if_neg (by omega)]; exact ⟨_, rfl, rfl⟩
      · rw [if_neg hb, if_pos (show x < lo by omega), w64 (a := hi - x) (by omega)]
        by_cases hc : x > hi - x
        · rw [if_pos hc, if_pos (show x > hf by omega)]; exact ⟨_, rfl, rfl⟩
        · rw [if_neg hc, if_neg (show ¬ x > hf by omega), w64 (a := x + x) (by omega), w64 (a := 2 * x) (by omega), show x + x = 2 * x by omega]
          refine double_ok lo hi hlo hhi n (2 * x) (by omega) (by omega) ?_
          rw [Int.pow_succ] at h2
          rw [Int.mul_comm 2 x, Int.mul_assoc, Int.mul_comm 2]; exact h2
    · rw [if_neg ha]
      by_cases hb : x < lo
      · rw [if_pos hb, if_pos (show x > hf by omega)]; exact ⟨_, rfl, rfl⟩
      · rw [if_neg hb, if_pos (by omega)]; exact ⟨_, rfl, rfl⟩
theorem double_both (n lo hi : Int) (hn : n ≤ 9223372036854775807) (hlo : -9223372036854775808 ≤ lo ∧ lo ≤ 9223372036854775807) (hhi : -9223372036854775808 ≤ hi ∧ hi ≤ 9223372036854775807) :
    ∃ p, num_Double.f 70 n lo hi = some p ∧ sheerlegref01_Double.f 70 n lo hi = some p := by
  unfold num_Double.f sheerlegref01_Double.f
  by_cases h : n < 1
  · rw [if_pos h, if_pos h]; exact ⟨_, rfl, rfl⟩
  · rw [if_neg h, if_neg h]
    refine double_ok lo hi hlo hhi 69 n (by omega) hn ?_
    have : (1 : Int) * 2 ^ 69 ≤ n * 2 ^ 69 := Int.mul_le_mul_of_nonneg_right (by omega) (by decide)
    exact Int.le_trans (by decide) this
theorem near_both (n lo hi : Int) : ∃ p, num_Near.f n lo hi = some p ∧ sheerlegref01_Near.f n lo hi = some p := by
  unfold num_Near.f sheerlegref01_Near.f
  split
  · exact ⟨_, rfl, rfl⟩
  · split <;> exact ⟨_, rfl, rfl⟩
theorem halves (b : Int) (hb : b ≤ 62) : ∀ (m e : Nat) (x i : Int), 0 ≤ x → x ≤ 9223372036854775807 → 0 ≤ i → i + m = b → sheerlegref01_Fits.l0 (e + m + 1) x b i = some (x / 2 ^ m == 0)
  | 0, e, x, i, _, _, _, h => by rw [sheerlegref01_Fits.l0, if_neg (by omega)]; simp
  | m + 1, e, x, i, h0, h1, hi, h => by
    rw [sheerlegref01_Fits.l0, if_pos (by omega), Int.tdiv_eq_ediv_of_nonneg h0, w64 (by omega), w64 (by omega), ← Nat.add_assoc, halves b hb m e (x / 2) (i + 1) (by omega) (by omega) (by omega) (by omega)]
    rw [Int.ediv_ediv_of_nonneg (by omega), Int.pow_succ, Int.mul_comm]
theorem fits_both (n b : Int) (hn : n ≤ 9223372036854775807) : ∃ p, num_Fits.f n b = some p ∧ sheerlegref01_Fits.f 70 n b = some p := by
  unfold num_Fits.f sheerlegref01_Fits.f
  by_cases h0 : b < 0
  · rw [if_neg (show ¬ b ≥ 0 by omega), if_pos h0]; exact ⟨_, rfl, rfl⟩
  · rw [if_pos (show b ≥ 0 by omega), if_neg h0]
    by_cases h1 : b ≤ 62
    · rw [if_pos h1, if_neg (show ¬ b > 62 by omega)]
      by_cases h2 : n < 0
      · rw [if_neg (show ¬ n ≥ 0 by omega), decide_eq_true h2]; exact ⟨_, rfl, rfl⟩
      · rw [if_pos (show n ≥ 0 by omega), decide_eq_false h2]
        have hu : IntKind.u64.wrap b = b := by simp [IntKind.wrap, IntKind.signed, IntKind.bits]; omega
        rw [hu, if_pos (show 0 ≤ b by omega)]
        refine ⟨_, rfl, ?_⟩
        show sheerlegref01_Fits.l0 69 n b 0 = _
        have := halves b h1 b.toNat (69 - b.toNat - 1) n 0 (by omega) hn (by omega) (by omega)
        rw [show 69 - b.toNat - 1 + b.toNat + 1 = 69 by omega] at this
        rw [this]; unfold shr; rw [Nat.min_eq_left (by show b.toNat ≤ 64; omega)]
    · rw [if_neg h1, if_pos (show b > 62 by omega)]; exact ⟨_, rfl, rfl⟩

theorem NumBounds : sheerleglaw01_NumBounds.Pure := by
  intro n lo hi b hn hlo hhi hb
  have hn := wf64 hn
  have hlo := wf64 hlo
  have hhi := wf64 hhi
  refine ⟨70, ?_⟩
  obtain ⟨p, hp, hp2⟩ := double_both n lo hi hn.2 hlo hhi
  obtain ⟨q, hq, hq2⟩ := near_both n lo hi
  obtain ⟨r, hr, hr2⟩ := fits_both n b hn.2
  have hk : sheerleglaw01_known.f 70 = some true := by decide +kernel
  unfold sheerleglaw01_NumBounds.f
  rw [hp, hp2, hq, hq2, hr, hr2, hk]
  simp

end Go.Proofs.Ytlcojcfnidpdgaa.Pure
