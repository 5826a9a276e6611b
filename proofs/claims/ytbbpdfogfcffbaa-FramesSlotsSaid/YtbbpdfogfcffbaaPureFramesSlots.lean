/- FramesSlots of the layer frames: for every frame of any size, slot and numbers of 64 bits the law answers true. No conditions. -/
import Derived.Test.YtbbpdfogfcffbaaPGx8
namespace Go.Proofs.Ytbbpdfogfcffbaa.Pure
open Go.RowKit Go.Proofs.Ytbbpdfogfcffbaa.PG Go.Proofs.YtbbpdfogfcffbaaW.PrintWords Go.Proofs.YtbbpdfogfcffbaaW.PrintLast

theorem wf64 {a : Int} (h : (Lit.int .i64 a).wf = true) : -9223372036854775808 ≤ a ∧ a ≤ 9223372036854775807 := by
  simp only [Lit.wf, IntKind.min, IntKind.max, IntKind.signed, IntKind.bits, Bool.and_eq_true, decide_eq_true_eq, if_true] at h
  exact ⟨by omega, by omega⟩
theorem w64 {a : Int} (h : -9223372036854775808 ≤ a ∧ a ≤ 9223372036854775807) : wrap64 a = a := by unfold wrap64; omega
theorem w64_rng (a : Int) : -9223372036854775808 ≤ wrap64 a ∧ wrap64 a ≤ 9223372036854775807 := by unfold wrap64; omega
theorem own_eq (a0 a1 : Int) (l2 : List Int) (l3) (a4 a5 : Int) (a6 a7 : Bool) (h2 : l2.length ≤ 60) (h3 : l3.length ≤ 60) : frames_own.f a0 a1 l2 l3 a4 a5 a6 a7 = some (a0, a1, l2, l3, a4, a5, a6, a7) := by
  unfold frames_own.f slices_Clone_int64_int64.f api_Pend.f
  simp only [Option.bind_some, List.length_nil, List.nil_append]
  rw [if_pos (by omega)]
  simp only [Option.bind_some]
  rw [if_pos (by omega)]
  rfl
theorem rd_set (l : List Int) (i j x : Int) (hi : 0 ≤ i) (hi2 : i < l.length) (hj : 0 ≤ j) (hj2 : j < l.length) : rd (l.set i.toNat x) j = if j = i then x else rd l j := by
  unfold rd
  rw [List.getD_eq_getElem?_getD, List.getD_eq_getElem?_getD, List.getElem?_set]
  by_cases h : j = i
  · subst h; simp only [if_true]; rw [if_pos (by omega)]; rfl
  · rw [if_neg h, if_neg (by omega)]
theorem get_eq (a0 a1 : Int) (l2 : List Int) (l3) (a4 a5 : Int) (a6 a7 : Bool) (s : Int) : frames_Get.f a0 a1 l2 l3 a4 a5 a6 a7 s = some (if 0 ≤ s ∧ s < l2.length then rd l2 s else 0) := by
  unfold frames_Get.f
  by_cases h0 : s < 0
  · rw [if_pos h0, if_neg (by omega)]
  · rw [if_neg h0]
    by_cases h1 : s ≥ (l2.length : Int)
    · rw [if_pos h1, if_neg (by omega)]
    · rw [if_neg h1, if_pos (by omega), if_pos (by omega), if_pos (by omega)]
def set_ (l2 : List Int) (s n : Int) : List Int := if 0 ≤ s ∧ s < l2.length then l2.set s.toNat n else l2
theorem set_len (l2 : List Int) (s n : Int) : (set_ l2 s n).length = l2.length := by unfold set_; split <;> simp
theorem set_eq (a0 a1 : Int) (l2 : List Int) (l3) (a4 a5 : Int) (a6 a7 : Bool) (s n : Int) (h2 : l2.length ≤ 60) (h3 : l3.length ≤ 60) : frames_Set.f a0 a1 l2 l3 a4 a5 a6 a7 s n = some (a0, a1, set_ l2 s n, l3, a4, a5, a6, a7) := by
  unfold frames_Set.f set_
  rw [own_eq a0 a1 l2 l3 a4 a5 a6 a7 h2 h3]
  simp only [Option.bind_some]
  by_cases h : 0 ≤ s
  · rw [if_pos h]
    by_cases h1 : s < (l2.length : Int)
    · rw [if_pos h1, if_pos h, if_pos ⟨h, h1⟩]
    · rw [if_neg h1, if_neg (by omega)]
  · rw [if_neg h, if_neg (by omega)]
theorem pend_eq (k : Nat) (x : _) (h : (List.length (rd_T34 [x] 0).f3) ≤ 60) : frames_Pending.f (k + 2) [x] = some ((rd_T34 [x] 0).f3.length : Int) := by
  show frames_Pending.l0 (k + 1 + 1) 0 [x] 1 0 = _
  rw [frames_Pending.l0, if_pos (by decide), if_pos (by decide), if_pos (show (0 : Int) < (List.length [x] : Int) by simp), frames_Pending.l0, if_neg (by decide +kernel), w64 (by omega), Int.zero_add]
theorem get_set (l2 : List Int) (s n o : Int) : (if 0 ≤ o ∧ o < (set_ l2 s n).length then rd (set_ l2 s n) o else 0) = if o = s ∧ 0 ≤ s ∧ s < l2.length then n else if 0 ≤ o ∧ o < l2.length then rd l2 o else 0 := by
  rw [set_len]
  by_cases h : 0 ≤ o ∧ o < l2.length
  · rw [if_pos h, if_pos h]
    unfold set_
    by_cases h1 : 0 ≤ s ∧ s < l2.length
    · rw [if_pos h1, rd_set _ _ _ _ h1.1 h1.2 h.1 h.2]
      by_cases h2 : o = s
      · rw [if_pos h2, if_pos ⟨h2, h1⟩]
      · rw [if_neg h2, if_neg (fun hh => h2 hh.1)]
    · rw [if_neg h1, if_neg (fun hh => h1 hh.2)]
  · rw [if_neg h, if_neg h, if_neg (by omega)]
theorem FramesSlots : sheerleglaw36_FramesSlots.Pure := by
  intro a0 a1 l2 l3 a4 a5 a6 a7 s n o _ _ _ _ _ _ _ _ _
  refine ⟨80, ?_⟩
  have hk : sheerleglaw36_known.f 80 = some true := by decide +kernel
  have hk2 : sheerleglaw36_known.f 79 = some true := by decide +kernel
  unfold sheerleglaw36_FramesSlots.f sheerleglaw36_few.f
  by_cases h2 : (l2.length : Int) ≤ 60
  · rw [if_pos h2]
    simp only [Option.bind_some]
    by_cases h3 : (l3.length : Int) ≤ 60
    · rw [decide_eq_true h3, if_pos rfl, set_eq a0 a1 l2 l3 a4 a5 a6 a7 s n (by omega) (by omega), get_eq]
      simp only [Option.bind_some]
      have G := get_set l2 s n o
      have P : frames_Pending.f 79 [⟨a0, a1, set_ l2 s n, l3, a4, a5, a6, a7⟩] = some (l3.length : Int) := pend_eq 77 _ (by show l3.length ≤ 60; omega)
      have J : ∀ b : Bool, (b = true ↔ o = s ∧ 0 ≤ s ∧ s < l2.length) → sheerleglaw36_FramesSlots.j0 80 n o (if 0 ≤ o ∧ o < l2.length then rd l2 o else 0) b a0 a1 l2 l3 a4 a5 a6 a7 a0 a1 (set_ l2 s n) l3 a4 a5 a6 a7 = some true := by
        intro b hb
        rw [sheerleglaw36_FramesSlots.j0, get_eq, P, hk2, G, set_len]
        simp only [Option.bind_some]
        cases b
        · rw [if_neg (by decide), if_neg (fun hh => absurd (hb.2 hh) (by decide))]; simp
        · rw [if_pos rfl, if_pos (hb.1 rfl)]; simp
      by_cases e : o = s
      · rw [if_pos e]
        by_cases e1 : s ≥ 0
        · rw [if_pos e1]
          exact J _ ⟨fun hh => ⟨e, e1, of_decide_eq_true hh⟩, fun hh => decide_eq_true hh.2.2⟩
        · rw [if_neg e1]
          exact J _ ⟨fun hh => absurd hh (by decide), fun hh => absurd hh.2.1 e1⟩
      · rw [if_neg e]
        exact J _ ⟨fun hh => absurd hh (by decide), fun hh => absurd hh.1 e⟩
    · rw [decide_eq_false h3, if_neg (by decide), hk]; rfl
  · rw [if_neg h2]
    simp only [Option.bind_some]
    rw [if_neg (by decide), hk]; rfl

end Go.Proofs.Ytbbpdfogfcffbaa.Pure
