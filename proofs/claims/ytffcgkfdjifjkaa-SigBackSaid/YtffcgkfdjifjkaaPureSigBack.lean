/- SigBack of the layer sig: for all two numbers of 64 bits the law answers true. No conditions. -/
import Derived.Test.YtffcgkfdjifjkaaPSigBackx2
namespace Go.Proofs.Ytffcgkfdjifjkaa.Pure
open Go.RowKit Go.Proofs.Ytffcgkfdjifjkaa.PSigBack Go.Proofs.YtffcgkfdjifjkaaW.PrintWords Go.Proofs.YtffcgkfdjifjkaaW.PrintLast

theorem wf64 {a : Int} (h : (Lit.int .i64 a).wf = true) : -9223372036854775808 ≤ a ∧ a ≤ 9223372036854775807 := by
  simp only [Lit.wf, IntKind.min, IntKind.max, IntKind.signed, IntKind.bits, Bool.and_eq_true, decide_eq_true_eq, if_true] at h
  exact ⟨by omega, by omega⟩

theorem known_ok : sheerleglaw05_known.f 40 = some true := by decide +kernel

theorem text_out (a : Int) (h : a < 0 ∨ 8 < a) : sig_Text.f a = some ⟨#[]⟩ := by
  unfold sig_Text.f sig_texts.f
  simp only [Option.bind_some]
  by_cases h0 : a < 0
  · rw [if_pos h0]
  · rw [if_neg h0, if_pos (by simp only [List.length]; omega)]

theorem is_out (a : Int) (h : a < 0 ∨ 7 < a) : sig_Is.f a = some false := by
  unfold sig_Is.f
  by_cases h0 : a ≥ 0
  · rw [if_pos h0]; simp; omega
  · rw [if_neg h0]

theorem class_out (a : Int) (hw : (Lit.int .i64 a).wf = true) (h : a < 0 ∨ 8 < a) : sig_Class.f a = some (0, false) := by
  have hb := wf64 hw
  unfold sig_Class.f
  rw [is_out _ (by unfold wrap64; omega)]
  rfl

theorem back_out (a b : Int) (hw : (Lit.int .i64 a).wf = true) (h : a < 0 ∨ 8 < a) : sheerleglaw05_SigBack.f 41 a b = some true := by
  unfold sheerleglaw05_SigBack.f
  rw [is_out _ (by omega)]
  simp only [Option.bind_some, Bool.false_eq_true, if_false]
  simp only [sheerleglaw05_SigBack.j0]
  rw [text_out a h, class_out a hw h, known_ok]
  simp only [Option.bind_some]
  rw [if_pos (by decide +kernel), if_neg (by decide)]
  by_cases h0 : a < 0
  · rw [if_pos h0]
  · rw [if_neg h0, if_pos (by omega)]

theorem back_b (a b : Int) (h : b < 0 ∨ 8 < b) (h1 : 0 ≤ a) (h2 : a ≤ 8) : sheerleglaw05_SigBack.f 41 a b = sheerleglaw05_SigBack.f 41 a (-1) := by
  have e1 : (a == b) = false := by rw [beq_eq_false_iff_ne]; omega
  have e2 : (a == -1) = false := by rw [beq_eq_false_iff_ne]; omega
  simp only [sheerleglaw05_SigBack.f, sheerleglaw05_SigBack.j0, text_out b h, text_out (-1) (by omega), e1, e2]

theorem back_in : ∀ a : Fin 9, sheerleglaw05_SigBack.f 41 (a.val : Int) (-1) = some true ∧ ∀ b : Fin 9, sheerleglaw05_SigBack.f 41 (a.val : Int) (b.val : Int) = some true := by
  decide +kernel

theorem SigBack : sheerleglaw05_SigBack.Pure := by
  intro a b ha hb
  refine ⟨41, ?_⟩
  by_cases h : a < 0 ∨ 8 < a
  · exact back_out a b ha h
  · obtain ⟨n, rfl⟩ : ∃ n : Nat, a = n := ⟨a.toNat, by omega⟩
    have hn : n < 9 := by omega
    by_cases h' : b < 0 ∨ 8 < b
    · rw [back_b _ b h' (by omega) (by omega)]; exact (back_in ⟨n, hn⟩).1
    · obtain ⟨m, rfl⟩ : ∃ n : Nat, b = n := ⟨b.toNat, by omega⟩
      exact (back_in ⟨n, hn⟩).2 ⟨m, by omega⟩

end Go.Proofs.Ytffcgkfdjifjkaa.Pure
