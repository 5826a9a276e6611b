/- SigTells of the layer sig: for every number of 64 bits, bool and text the law answers true. No conditions. -/
import Derived.Test.YtffcgkfdjifjkaaPGx2
namespace Go.Proofs.Ytffcgkfdjifjkaa.Pure
open Go.RowKit Go.Proofs.Ytffcgkfdjifjkaa.PG Go.Proofs.YtffcgkfdjifjkaaW.PrintWords Go.Proofs.YtffcgkfdjifjkaaW.PrintLast

theorem wf64 {a : Int} (h : (Lit.int .i64 a).wf = true) : -9223372036854775808 ≤ a ∧ a ≤ 9223372036854775807 := by
  simp only [Lit.wf, IntKind.min, IntKind.max, IntKind.signed, IntKind.bits, Bool.and_eq_true, decide_eq_true_eq, if_true] at h
  exact ⟨by omega, by omega⟩
theorem w64 {a : Int} (h : -9223372036854775808 ≤ a ∧ a ≤ 9223372036854775807) : wrap64 a = a := by unfold wrap64; omega
theorem w64_rng (a : Int) : -9223372036854775808 ≤ wrap64 a ∧ wrap64 a ≤ 9223372036854775807 := by unfold wrap64; omega
theorem bytes_ext {a b : ByteArray} (h : a.toList = b.toList) : a = b := by
  rw [Go.ByteArray.toList_eq, Go.ByteArray.toList_eq] at h
  cases a with | mk da => cases b with | mk db => cases da; cases db; simp_all
def T : List ByteArray := [(⟨#[110]⟩ : ByteArray), (⟨#[102, 48]⟩ : ByteArray), (⟨#[102, 48, 114]⟩ : ByteArray), (⟨#[102, 49]⟩ : ByteArray), (⟨#[102, 49, 114]⟩ : ByteArray), (⟨#[102, 50]⟩ : ByteArray), (⟨#[102, 50, 114]⟩ : ByteArray), (⟨#[102, 51]⟩ : ByteArray), (⟨#[102, 51, 114]⟩ : ByteArray)]
def t (i : Int) : ByteArray := rdOf ByteArray.empty T i
theorem ix_step (s : ByteArray) (k : Nat) (i j : Int) (h0 : 0 ≤ i) (h9 : i < 9) (hj : wrap64 (i + 1) = j) (h : ¬ s = t i) : slices_Index_string_string.l0 (k + 1) T s 9 i = slices_Index_string_string.l0 k T s 9 j := by
  rw [slices_Index_string_string.l0, if_pos h9, if_pos h0, if_pos (show i < (T.length : Int) from h9), if_neg (show ¬ s.toList = (rdOf ByteArray.empty T i).toList from fun hh => h (bytes_ext hh)), hj]
theorem ref_step (s : ByteArray) (k : Nat) (i j : Int) (h9 : i ≤ 8) (ht : sheerlegref05_Text.f k i = some (t i)) (hj : wrap64 (i + 1) = j) (h : ¬ s = t i) : sheerlegref05_Parse.l0 (k + 1) s i = sheerlegref05_Parse.l0 k s j := by
  rw [sheerlegref05_Parse.l0, if_pos h9, ht, Option.bind_some, if_neg (fun hh => h (bytes_ext hh).symm), hj]
theorem parse_both (s : ByteArray) : ∃ p, sig_Parse.f 40 s = some p ∧ sheerlegref05_Parse.f 40 s = some p := by
  by_cases h0 : s = t 0
  · subst h0; exact ⟨(0, true), by decide +kernel, by decide +kernel⟩
  by_cases h1 : s = t 1
  · subst h1; exact ⟨(1, true), by decide +kernel, by decide +kernel⟩
  by_cases h2 : s = t 2
  · subst h2; exact ⟨(2, true), by decide +kernel, by decide +kernel⟩
  by_cases h3 : s = t 3
  · subst h3; exact ⟨(3, true), by decide +kernel, by decide +kernel⟩
  by_cases h4 : s = t 4
  · subst h4; exact ⟨(4, true), by decide +kernel, by decide +kernel⟩
  by_cases h5 : s = t 5
  · subst h5; exact ⟨(5, true), by decide +kernel, by decide +kernel⟩
  by_cases h6 : s = t 6
  · subst h6; exact ⟨(6, true), by decide +kernel, by decide +kernel⟩
  by_cases h7 : s = t 7
  · subst h7; exact ⟨(7, true), by decide +kernel, by decide +kernel⟩
  by_cases h8 : s = t 8
  · subst h8; exact ⟨(8, true), by decide +kernel, by decide +kernel⟩
  refine ⟨(0, false), ?_, ?_⟩
  · show (slices_Index_string_string.l0 40 T s 9 0).bind _ = _
    rw [ix_step s 39 0 1 (by decide) (by decide) (by decide +kernel) h0, ix_step s 38 1 2 (by decide) (by decide) (by decide +kernel) h1, ix_step s 37 2 3 (by decide) (by decide) (by decide +kernel) h2, ix_step s 36 3 4 (by decide) (by decide) (by decide +kernel) h3, ix_step s 35 4 5 (by decide) (by decide) (by decide +kernel) h4, ix_step s 34 5 6 (by decide) (by decide) (by decide +kernel) h5, ix_step s 33 6 7 (by decide) (by decide) (by decide +kernel) h6, ix_step s 32 7 8 (by decide) (by decide) (by decide +kernel) h7, ix_step s 31 8 9 (by decide) (by decide) (by decide +kernel) h8]
    rfl
  · unfold sheerlegref05_Parse.f
    rw [ref_step s 39 0 1 (by decide) (by decide +kernel) (by decide +kernel) h0, ref_step s 38 1 2 (by decide) (by decide +kernel) (by decide +kernel) h1, ref_step s 37 2 3 (by decide) (by decide +kernel) (by decide +kernel) h2, ref_step s 36 3 4 (by decide) (by decide +kernel) (by decide +kernel) h3, ref_step s 35 4 5 (by decide) (by decide +kernel) (by decide +kernel) h4, ref_step s 34 5 6 (by decide) (by decide +kernel) (by decide +kernel) h5, ref_step s 33 6 7 (by decide) (by decide +kernel) (by decide +kernel) h6, ref_step s 32 7 8 (by decide) (by decide +kernel) (by decide +kernel) h7, ref_step s 31 8 9 (by decide) (by decide +kernel) (by decide +kernel) h8]
    rfl
/-- What is compared of a number. -/
def Alike (n : Int) (b : Bool) : Prop := (∃ p, sig_Of.f 40 n b = some p ∧ sheerlegref05_Of.f 40 n b = some p) ∧ (∃ p, sig_Class.f n = some p ∧ sheerlegref05_Class.f n = some p) ∧ (∃ p, sig_Is.f n = some p ∧ sheerlegref05_Is.f n = some p) ∧ (∃ p, sig_Params.f n = some p ∧ sheerlegref05_Params.f n = some p) ∧ (∃ p, sig_Answers.f n = some p ∧ sheerlegref05_Answers.f n = some p) ∧ (∃ p, sig_Later.f n = some p ∧ sheerlegref05_Later.f n = some p) ∧ ∃ p, sig_Text.f n = some p ∧ sheerlegref05_Text.f 39 n = some p
theorem both {α : Type} {a b : Option α} (h : a.isSome = true) (e : a = b) : ∃ p, a = some p ∧ b = some p := by
  cases a with
  | none => cases h
  | some x => exact ⟨x, rfl, e.symm⟩
theorem alike_in (n : Int) (b : Bool) (h : n = 0 ∨ n = 1 ∨ n = 2 ∨ n = 3 ∨ n = 4 ∨ n = 5 ∨ n = 6 ∨ n = 7 ∨ n = 8) : Alike n b := by
  rcases h with rfl | rfl | rfl | rfl | rfl | rfl | rfl | rfl | rfl <;> cases b <;> exact ⟨both (by decide +kernel) (by decide +kernel), both (by decide +kernel) (by decide +kernel), both (by decide +kernel) (by decide +kernel), both (by decide +kernel) (by decide +kernel), both (by decide +kernel) (by decide +kernel), both (by decide +kernel) (by decide +kernel), both (by decide +kernel) (by decide +kernel)⟩
theorem is_out (n : Int) (h : n < 0 ∨ 7 < n) : sig_Is.f n = some false ∧ sheerlegref05_Is.f n = some false := by
  unfold sig_Is.f sheerlegref05_Is.f
  by_cases h0 : n ≥ 0
  · rw [if_pos h0, if_pos h0, decide_eq_false (by omega), decide_eq_false (by omega)]; exact ⟨rfl, rfl⟩
  · rw [if_neg h0, if_neg h0]; exact ⟨rfl, rfl⟩
theorem alike_out (n : Int) (b : Bool) (hn : -9223372036854775808 ≤ n ∧ n ≤ 9223372036854775807) (h : n < 0 ∨ 8 < n) : Alike n b := by
  have hc : sig_Class.f n = some (0, false) ∧ sheerlegref05_Class.f n = some (0, false) := by
    unfold sig_Class.f sheerlegref05_Class.f
    have := is_out (wrap64 (n - 1)) (by unfold wrap64; omega)
    rw [this.1, this.2]; exact ⟨rfl, rfl⟩
  have hi := is_out n (by omega)
  have ha : sig_Answers.f n = some false ∧ sheerlegref05_Answers.f n = some false := by
    unfold sig_Answers.f sheerlegref05_Answers.f; rw [hi.1, hi.2]; exact ⟨rfl, rfl⟩
  refine ⟨?_, ⟨_, hc⟩, ⟨_, hi⟩, ⟨0, ?_⟩, ⟨_, ha⟩, ⟨false, ?_⟩, ⟨(⟨#[]⟩ : ByteArray), ?_⟩⟩
  · refine ⟨(0, false), ?_, ?_⟩
    · unfold sig_Of.f
      by_cases h0 : n < 0
      · rw [if_pos h0, decide_eq_true h0]; rfl
      · rw [if_neg h0, decide_eq_true (show n > 3 by omega)]; rfl
    · unfold sheerlegref05_Of.f
      by_cases h0 : n < 0
      · rw [if_pos h0]; rfl
      · rw [if_neg h0, decide_eq_true (show n > 3 by omega)]; rfl
  · unfold sig_Params.f sheerlegref05_Params.f; rw [hi.1, hi.2]; exact ⟨rfl, rfl⟩
  · unfold sig_Later.f sheerlegref05_Later.f; rw [hi.1, if_neg (by omega)]
    refine ⟨rfl, ?_⟩
    have : (n == 2) = false := beq_eq_false_iff_ne.mpr (by omega)
    rw [this]
  · constructor
    · unfold sig_Text.f sig_texts.f
      simp only [Option.bind_some]
      by_cases h0 : n < 0
      · rw [if_pos h0]
      · rw [if_neg h0, if_pos (by simp only [List.length]; omega)]
    · unfold sheerlegref05_Text.f
      rw [if_neg (by omega), hc.2]; rfl
theorem SigTells : sheerleglaw05_SigTells.Pure := by
  intro n b s hn _
  have hn := wf64 hn
  refine ⟨40, ?_⟩
  have hk : sheerleglaw05_known.f 40 = some true := by decide +kernel
  have hk2 : sheerleglaw05_known.f 39 = some true := by decide +kernel
  have A : Alike n b := by
    by_cases h : n < 0 ∨ 8 < n
    · exact alike_out n b hn h
    · exact alike_in n b (by omega)
  obtain ⟨⟨p1, a1, b1⟩, ⟨p2, a2, b2⟩, ⟨p3, a3, b3⟩, ⟨p4, a4, b4⟩, ⟨p5, a5, b5⟩, ⟨p6, a6, b6⟩, ⟨p7, a7, b7⟩⟩ := A
  obtain ⟨p8, a8, b8⟩ := parse_both s
  unfold sheerleglaw05_SigTells.f
  by_cases hs : (s.size : Int) > 50
  · rw [if_pos hs, hk]; rfl
  · rw [if_neg hs, a1, b1, a2, b2, a8, b8]
    simp only [Option.bind_some, bne_self_eq_false, if_true, Bool.false_eq_true, if_false]
    show sheerleglaw05_SigTells.j0 (39 + 1) n false = _
    rw [sheerleglaw05_SigTells.j0, a3, b3, a4, b4, a5, b5, a6, b6, a7, b7, hk2]
    simp

end Go.Proofs.Ytffcgkfdjifjkaa.Pure
