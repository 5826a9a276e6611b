/- FramesNew of the layer frames: for every function number, function, bool and arguments the law answers true. No conditions. -/
import Derived.Test.YtbbpdfogfcffbaaPGx7
namespace Go.Proofs.Ytbbpdfogfcffbaa.Pure
open Go.RowKit Go.Proofs.Ytbbpdfogfcffbaa.PG Go.Proofs.YtbbpdfogfcffbaaW.PrintWords Go.Proofs.YtbbpdfogfcffbaaW.PrintLast

theorem wf64 {a : Int} (h : (Lit.int .i64 a).wf = true) : -9223372036854775808 ≤ a ∧ a ≤ 9223372036854775807 := by
  simp only [Lit.wf, IntKind.min, IntKind.max, IntKind.signed, IntKind.bits, Bool.and_eq_true, decide_eq_true_eq, if_true] at h
  exact ⟨by omega, by omega⟩
theorem w64 {a : Int} (h : -9223372036854775808 ≤ a ∧ a ≤ 9223372036854775807) : wrap64 a = a := by unfold wrap64; omega
theorem w64_rng (a : Int) : -9223372036854775808 ≤ wrap64 a ∧ wrap64 a ≤ 9223372036854775807 := by unfold wrap64; omega
theorem longs_go (l : List Int) (hl : l.length ≤ 1000) : ∀ (m e : Nat) (i : Int), 0 ≤ i → i + m = l.length → sheerlegref01_Longs.l0 (e + m + 1) l l i = some true
  | 0, e, i, h0, h => by rw [sheerlegref01_Longs.l0, if_neg (by omega)]
  | m + 1, e, i, h0, h => by
    rw [sheerlegref01_Longs.l0, if_pos (by omega), if_pos h0, if_pos (by omega), if_pos rfl, w64 (by omega), ← Nat.add_assoc]
    exact longs_go l hl m e (i + 1) (by omega) (by omega)
theorem longs_refl (l : List Int) (k : Nat) (hl : l.length ≤ 1000) (hk : l.length < k) : sheerlegref01_Longs.f k l l = some true := by
  unfold sheerlegref01_Longs.f
  rw [if_pos rfl]
  have := longs_go l hl l.length (k - l.length - 1) 0 (by omega) (by omega)
  rw [show k - l.length - 1 + l.length + 1 = k by omega] at this
  exact this
theorem same_go (a0 a1 : Int) (l2 : List Int) (l3) (a4 a5 : Int) (a6 a7 : Bool) (hl : (List.length l3) ≤ 1000) : ∀ (m e : Nat) (i : Int), 0 ≤ i → i + m = l3.length → sheerlegref36_Same.l0 (e + m + 1) i a0 a1 l2 l3 a4 a5 a6 a7 a0 a1 l2 l3 a4 a5 a6 a7 = some true
  | 0, e, i, h0, h => by rw [sheerlegref36_Same.l0, if_neg (by omega)]
  | m + 1, e, i, h0, h => by
    rw [sheerlegref36_Same.l0, if_pos (by omega), if_pos h0, if_pos (by omega), if_neg (by simp), w64 (by omega), ← Nat.add_assoc]
    exact same_go a0 a1 l2 l3 a4 a5 a6 a7 hl m e (i + 1) (by omega) (by omega)
theorem same_refl (a0 a1 : Int) (l2 : List Int) (l3) (a4 a5 : Int) (a6 a7 : Bool) (k : Nat) (h2 : l2.length ≤ 1000) (h3 : (List.length l3) ≤ 1000) (hk : l2.length + l3.length + 2 < k) : sheerlegref36_Same.f k a0 a1 l2 l3 a4 a5 a6 a7 a0 a1 l2 l3 a4 a5 a6 a7 = some true := by
  unfold sheerlegref36_Same.f
  rw [if_pos rfl, if_pos rfl, longs_refl l2 k h2 (by omega)]
  simp only [Option.bind_some, if_true, bne_self_eq_false, Bool.false_eq_true, if_false]
  obtain ⟨j, rfl⟩ : ∃ j, k = j + 1 := ⟨k - 1, by omega⟩
  rw [sheerlegref36_Same.j0, if_neg (by decide)]
  have := same_go a0 a1 l2 l3 a4 a5 a6 a7 h3 l3.length (j - l3.length - 1) 0 (by omega) (by omega)
  rw [show j - l3.length - 1 + l3.length + 1 = j by omega] at this
  exact this
def pr (c : Int) : Int := if 0 ≤ c ∧ c ≤ 7 then c / 2 else 0
theorem pr_rng (c : Int) : 0 ≤ pr c ∧ pr c ≤ 3 := by unfold pr; split <;> omega
theorem sig_pr (c : Int) : sig_Params.f c = some (pr c) := by
  unfold sig_Params.f sig_Is.f pr
  by_cases h : c ≥ 0
  · rw [if_pos h]
    simp only [Option.bind_some]
    by_cases h2 : c < 8
    · rw [decide_eq_true h2, if_pos rfl, if_pos (by omega)]
    · rw [decide_eq_false h2, if_neg (by decide), if_neg (by omega)]
  · rw [if_neg h]
    simp only [Option.bind_some]
    rw [if_neg (by decide), if_neg (by omega)]
theorem ref_pr (c : Int) : sheerlegref05_Params.f c = some (pr c) := by
  unfold sheerlegref05_Params.f sheerlegref05_Is.f pr
  by_cases h : c ≥ 0
  · rw [if_pos h]
    simp only [Option.bind_some]
    by_cases h2 : c ≤ 7
    · rw [decide_eq_true h2, if_pos rfl, if_pos (by omega), Int.tdiv_eq_ediv_of_nonneg h, w64 (by omega)]
    · rw [decide_eq_false h2, if_neg (by decide), if_neg (by omega)]
  · rw [if_neg h]
    simp only [Option.bind_some]
    rw [if_neg (by decide), if_neg (by omega)]
theorem slots_len (l : List Int) (p : Int) (K : Nat) : (frames_New.slots l p K).length = K := by
  unfold frames_New.slots; simp; omega
theorem slots_at (l : List Int) (p : Int) (K i : Nat) (hp : 0 ≤ p) (h : i < K) : (frames_New.slots l p K)[i]? = some (if (i : Int) < p ∧ (i : Int) < l.length then rd l i else 0) := by
  unfold frames_New.slots rd
  by_cases h1 : (i : Int) < p ∧ (i : Int) < l.length
  · rw [if_pos h1, List.getElem?_append_left (by simp; omega), List.getElem?_take_of_lt (by omega), List.getD_eq_getElem?_getD]
    have : i < l.length := by omega
    simp [this]
  · rw [if_neg h1, List.getElem?_append_right (by simp; omega), List.getElem?_replicate, if_pos (by simp; omega)]
theorem slots_step (l : List Int) (p : Int) (K i : Nat) (hp : 0 ≤ p) (h : i < K) : (frames_New.slots l p K).take i ++ [if (i : Int) < p ∧ (i : Int) < l.length then rd l i else 0] = (frames_New.slots l p K).take (i + 1) := by
  rw [List.take_add_one, slots_at l p K i hp h]; rfl
theorem new_go (l3 : List Int) (c : Int) (l1 : List Int) (a2 : Int) (a3 : Bool) (a4 a5 : Int) (l6 l7 l8) (x0 : Int) (x7 : Bool) (hK : l1.length ≤ 1000) :
    ∀ (m e i : Nat), i + m = l1.length → sheerlegref36_New.l0 (e + m + 1) l3 i c l1 a2 a3 a4 a5 l6 l7 l8 x0 0 ((frames_New.slots l3 (pr c) l1.length).take i) 0 0 false x7 = some (x0, 0, frames_New.slots l3 (pr c) l1.length, [], 0, 0, false, x7)
  | 0, e, i, h => by
    rw [sheerlegref36_New.l0, if_neg (by omega), List.take_of_length_le (by rw [slots_len]; omega)]
  | m + 1, e, i, h => by
    have hp := pr_rng c
    have hs := slots_step l3 (pr c) l1.length i hp.1 (by omega)
    have hlen : ((frames_New.slots l3 (pr c) l1.length).take i).length < 17592186044416 := by rw [List.length_take]; omega
    have ih := new_go l3 c l1 a2 a3 a4 a5 l6 l7 l8 x0 x7 hK m e (i + 1) (by omega)
    rw [sheerlegref36_New.l0, if_pos (by omega), ref_pr]
    simp only [Option.bind_some]
    rw [w64 (by omega), ← Nat.add_assoc]
    rw [← hs] at ih
    by_cases h1 : (i : Int) < pr c
    · rw [if_pos h1]
      by_cases h2 : (i : Int) < l3.length
      · rw [if_pos ⟨h1, h2⟩] at ih
        rw [if_pos h2, if_pos (by omega), if_pos hlen]; exact ih
      · rw [if_neg (fun hh => h2 hh.2)] at ih
        rw [if_neg h2, if_pos hlen]; exact ih
    · rw [if_neg (fun hh => h1 hh.1)] at ih
      rw [if_neg h1, if_pos hlen]; exact ih
theorem FramesNew : sheerleglaw36_FramesNew.Pure := by
  intro a0 c l1 a2 a3 a4 a5 l6 l7 l8 ch l3 _ _ _ _ _ _ _ _ _ _
  refine ⟨300, ?_⟩
  have hk : sheerleglaw36_known.f 299 = some true := by decide +kernel
  have J : sheerleglaw36_FramesNew.j0 300 a0 ch l3 true c l1 a2 a3 a4 a5 l6 l7 l8 = some true := by
    rw [sheerleglaw36_FramesNew.j0, if_pos rfl, hk]; rfl
  have J2 : l1.length ≤ 100 → ∀ b, sheerleglaw36_FramesNew.j0 300 a0 ch l3 b c l1 a2 a3 a4 a5 l6 l7 l8 = some true := by
    intro hl b
    cases b
    · rw [sheerleglaw36_FramesNew.j0, if_neg (by decide)]
      unfold frames_New.f sheerlegref36_New.f
      have hp := pr_rng c
      have g := new_go l3 c l1 a2 a3 a4 a5 l6 l7 l8 a0 ch (by omega) l1.length (298 - l1.length) 0 (by omega)
      rw [show 298 - l1.length + l1.length + 1 = 299 by omega] at g
      rw [sig_pr]
      simp only [Option.bind_some]
      rw [if_pos hp.1, if_pos (by omega)]
      simp only [Option.bind_some]
      have g2 : sheerlegref36_New.l0 299 l3 0 c l1 a2 a3 a4 a5 l6 l7 l8 a0 0 [] 0 0 false ch = some (a0, 0, frames_New.slots l3 (pr c) l1.length, [], 0, 0, false, ch) := g
      rw [g2]
      simp only [Option.bind_some]
      rw [same_refl _ _ _ _ _ _ _ _ 299 (by rw [slots_len]; omega) (by simp) (by rw [slots_len]; simp; omega), hk]
      rfl
    · exact J
  unfold sheerleglaw36_FramesNew.f sheerlegref16_Few.f
  by_cases h1 : (l1.length : Int) ≤ 100
  · rw [if_pos h1]
    split <;> (try split) <;> simp only [Option.bind_some] <;> (try split) <;> first | exact J | exact J2 (by omega) _
  · rw [if_neg h1]
    simp only [Option.bind_some]
    rw [if_neg (by decide)]; exact J

end Go.Proofs.Ytbbpdfogfcffbaa.Pure
