/- OpTells of the layer op: for every number of 64 bits and every text the law answers true. No conditions. -/
import Derived.Test.YtffcgkfdjifjkaaPGx5
namespace Go.Proofs.Ytffcgkfdjifjkaa.Pure
open Go.RowKit Go.Proofs.Ytffcgkfdjifjkaa.PG Go.Proofs.YtffcgkfdjifjkaaW.PrintWords Go.Proofs.YtffcgkfdjifjkaaW.PrintLast

theorem wf64 {a : Int} (h : (Lit.int .i64 a).wf = true) : -9223372036854775808 ≤ a ∧ a ≤ 9223372036854775807 := by
  simp only [Lit.wf, IntKind.min, IntKind.max, IntKind.signed, IntKind.bits, Bool.and_eq_true, decide_eq_true_eq, if_true] at h
  exact ⟨by omega, by omega⟩
theorem w64 {a : Int} (h : -9223372036854775808 ≤ a ∧ a ≤ 9223372036854775807) : wrap64 a = a := by unfold wrap64; omega
theorem w64_rng (a : Int) : -9223372036854775808 ≤ wrap64 a ∧ wrap64 a ≤ 9223372036854775807 := by unfold wrap64; omega
theorem known_ok : sheerleglaw07_known.f 60 = some true := by decide +kernel
theorem name_out (n : Int) (h : n < 1 ∨ 28 < n) : op_Name.f n = some (⟨#[]⟩ : ByteArray) := by
  unfold op_Name.f
  by_cases h0 : n < 1
  · rw [if_pos h0]
  · rw [if_neg h0, if_pos (by omega)]
theorem own_out (n : Int) (h : n < 1 ∨ 24 < n) : op_Own.f n = some false := by
  unfold op_Own.f
  by_cases h0 : n ≥ 1
  · rw [if_pos h0, decide_eq_false (by omega)]
  · rw [if_neg h0]
theorem shape_out (n : Int) (h : n < 1 ∨ 24 < n) : op_Shape.f n = some (⟨#[]⟩ : ByteArray) := by
  unfold op_Shape.f; rw [own_out n h]; rfl
theorem need_out (k : Nat) (n : Int) (h : n < 1 ∨ 24 < n) : op_Need.f (k + 1) n = some 0 := by
  unfold op_Need.f
  rw [if_neg (by omega), if_neg (by omega), if_neg (by omega), show (n == 16) = false from beq_eq_false_iff_ne.mpr (by omega), op_Need.j0, if_neg (by decide), if_neg (by omega), if_neg (by omega)]
theorem ends_out (n : Int) (h : n < 1 ∨ 24 < n) : op_Ends.f n = some false := by
  unfold op_Ends.f
  rw [if_neg (by omega), if_neg (by omega), show (n == 24) = false from beq_eq_false_iff_ne.mpr (by omega)]
theorem bytes_ext {a b : ByteArray} (h : a.toList = b.toList) : a = b := by
  rw [Go.ByteArray.toList_eq, Go.ByteArray.toList_eq] at h
  cases a with | mk da => cases b with | mk db => cases da; cases db; simp_all
def t (i : Int) : ByteArray := rdOf ByteArray.empty op_Name_T i
theorem ix_step (s : ByteArray) (k : Nat) (i j : Int) (h0 : 0 ≤ i) (h9 : i < 28) (hj : wrap64 (i + 1) = j) (h : ¬ s = t i) : slices_Index_string_string.l0 (k + 1) op_Name_T s 28 i = slices_Index_string_string.l0 k op_Name_T s 28 j := by
  rw [slices_Index_string_string.l0, if_pos h9, if_pos h0, if_pos (show i < (op_Name_T.length : Int) from h9), if_neg (show ¬ s.toList = (rdOf ByteArray.empty op_Name_T i).toList from fun hh => h (bytes_ext hh)), hj]
theorem ref_step (s : ByteArray) (k : Nat) (i j : Int) (h0 : 0 ≤ i) (h9 : i < 28) (hj : wrap64 (i + 1) = j) (h : ¬ s = t i) : sheerlegref07_Find.l0 (k + 1) s op_Name_T i = sheerlegref07_Find.l0 k s op_Name_T j := by
  rw [sheerlegref07_Find.l0, if_pos (show i < (op_Name_T.length : Int) from h9), if_pos h0, if_neg (show ¬ (rdOf ByteArray.empty op_Name_T i).toList = s.toList from fun hh => h (bytes_ext hh).symm), hj]
theorem find_both (s : ByteArray) : ∃ p, op_Find.f 60 s = some p ∧ sheerlegref07_Find.f 60 s = some p := by
  by_cases h0 : s = t 0
  · subst h0; exact ⟨1, by decide +kernel, by decide +kernel⟩
  by_cases h1 : s = t 1
  · subst h1; exact ⟨2, by decide +kernel, by decide +kernel⟩
  by_cases h2 : s = t 2
  · subst h2; exact ⟨3, by decide +kernel, by decide +kernel⟩
  by_cases h3 : s = t 3
  · subst h3; exact ⟨4, by decide +kernel, by decide +kernel⟩
  by_cases h4 : s = t 4
  · subst h4; exact ⟨5, by decide +kernel, by decide +kernel⟩
  by_cases h5 : s = t 5
  · subst h5; exact ⟨6, by decide +kernel, by decide +kernel⟩
  by_cases h6 : s = t 6
  · subst h6; exact ⟨7, by decide +kernel, by decide +kernel⟩
  by_cases h7 : s = t 7
  · subst h7; exact ⟨8, by decide +kernel, by decide +kernel⟩
  by_cases h8 : s = t 8
  · subst h8; exact ⟨9, by decide +kernel, by decide +kernel⟩
  by_cases h9 : s = t 9
  · subst h9; exact ⟨10, by decide +kernel, by decide +kernel⟩
  by_cases h10 : s = t 10
  · subst h10; exact ⟨11, by decide +kernel, by decide +kernel⟩
  by_cases h11 : s = t 11
  · subst h11; exact ⟨12, by decide +kernel, by decide +kernel⟩
  by_cases h12 : s = t 12
  · subst h12; exact ⟨13, by decide +kernel, by decide +kernel⟩
  by_cases h13 : s = t 13
  · subst h13; exact ⟨14, by decide +kernel, by decide +kernel⟩
  by_cases h14 : s = t 14
  · subst h14; exact ⟨15, by decide +kernel, by decide +kernel⟩
  by_cases h15 : s = t 15
  · subst h15; exact ⟨16, by decide +kernel, by decide +kernel⟩
  by_cases h16 : s = t 16
  · subst h16; exact ⟨17, by decide +kernel, by decide +kernel⟩
  by_cases h17 : s = t 17
  · subst h17; exact ⟨18, by decide +kernel, by decide +kernel⟩
  by_cases h18 : s = t 18
  · subst h18; exact ⟨19, by decide +kernel, by decide +kernel⟩
  by_cases h19 : s = t 19
  · subst h19; exact ⟨20, by decide +kernel, by decide +kernel⟩
  by_cases h20 : s = t 20
  · subst h20; exact ⟨21, by decide +kernel, by decide +kernel⟩
  by_cases h21 : s = t 21
  · subst h21; exact ⟨22, by decide +kernel, by decide +kernel⟩
  by_cases h22 : s = t 22
  · subst h22; exact ⟨23, by decide +kernel, by decide +kernel⟩
  by_cases h23 : s = t 23
  · subst h23; exact ⟨24, by decide +kernel, by decide +kernel⟩
  by_cases h24 : s = t 24
  · subst h24; exact ⟨25, by decide +kernel, by decide +kernel⟩
  by_cases h25 : s = t 25
  · subst h25; exact ⟨26, by decide +kernel, by decide +kernel⟩
  by_cases h26 : s = t 26
  · subst h26; exact ⟨27, by decide +kernel, by decide +kernel⟩
  by_cases h27 : s = t 27
  · subst h27; exact ⟨28, by decide +kernel, by decide +kernel⟩
  refine ⟨0, ?_, ?_⟩
  · show (slices_Index_string_string.l0 60 op_Name_T s 28 0).bind _ = _
    rw [ix_step s 59 0 1 (by decide) (by decide) (by decide +kernel) h0, ix_step s 58 1 2 (by decide) (by decide) (by decide +kernel) h1, ix_step s 57 2 3 (by decide) (by decide) (by decide +kernel) h2, ix_step s 56 3 4 (by decide) (by decide) (by decide +kernel) h3, ix_step s 55 4 5 (by decide) (by decide) (by decide +kernel) h4, ix_step s 54 5 6 (by decide) (by decide) (by decide +kernel) h5, ix_step s 53 6 7 (by decide) (by decide) (by decide +kernel) h6, ix_step s 52 7 8 (by decide) (by decide) (by decide +kernel) h7, ix_step s 51 8 9 (by decide) (by decide) (by decide +kernel) h8, ix_step s 50 9 10 (by decide) (by decide) (by decide +kernel) h9, ix_step s 49 10 11 (by decide) (by decide) (by decide +kernel) h10, ix_step s 48 11 12 (by decide) (by decide) (by decide +kernel) h11, ix_step s 47 12 13 (by decide) (by decide) (by decide +kernel) h12, ix_step s 46 13 14 (by decide) (by decide) (by decide +kernel) h13, ix_step s 45 14 15 (by decide) (by decide) (by decide +kernel) h14, ix_step s 44 15 16 (by decide) (by decide) (by decide +kernel) h15, ix_step s 43 16 17 (by decide) (by decide) (by decide +kernel) h16, ix_step s 42 17 18 (by decide) (by decide) (by decide +kernel) h17, ix_step s 41 18 19 (by decide) (by decide) (by decide +kernel) h18, ix_step s 40 19 20 (by decide) (by decide) (by decide +kernel) h19, ix_step s 39 20 21 (by decide) (by decide) (by decide +kernel) h20, ix_step s 38 21 22 (by decide) (by decide) (by decide +kernel) h21, ix_step s 37 22 23 (by decide) (by decide) (by decide +kernel) h22, ix_step s 36 23 24 (by decide) (by decide) (by decide +kernel) h23, ix_step s 35 24 25 (by decide) (by decide) (by decide +kernel) h24, ix_step s 34 25 26 (by decide) (by decide) (by decide +kernel) h25, ix_step s 33 26 27 (by decide) (by decide) (by decide +kernel) h26, ix_step s 32 27 28 (by decide) (by decide) (by decide +kernel) h27]
    rw [slices_Index_string_string.l0, if_neg (by decide)]
    decide +kernel
  · show sheerlegref07_Find.l0 60 s op_Name_T 0 = _
    rw [ref_step s 59 0 1 (by decide) (by decide) (by decide +kernel) h0, ref_step s 58 1 2 (by decide) (by decide) (by decide +kernel) h1, ref_step s 57 2 3 (by decide) (by decide) (by decide +kernel) h2, ref_step s 56 3 4 (by decide) (by decide) (by decide +kernel) h3, ref_step s 55 4 5 (by decide) (by decide) (by decide +kernel) h4, ref_step s 54 5 6 (by decide) (by decide) (by decide +kernel) h5, ref_step s 53 6 7 (by decide) (by decide) (by decide +kernel) h6, ref_step s 52 7 8 (by decide) (by decide) (by decide +kernel) h7, ref_step s 51 8 9 (by decide) (by decide) (by decide +kernel) h8, ref_step s 50 9 10 (by decide) (by decide) (by decide +kernel) h9, ref_step s 49 10 11 (by decide) (by decide) (by decide +kernel) h10, ref_step s 48 11 12 (by decide) (by decide) (by decide +kernel) h11, ref_step s 47 12 13 (by decide) (by decide) (by decide +kernel) h12, ref_step s 46 13 14 (by decide) (by decide) (by decide +kernel) h13, ref_step s 45 14 15 (by decide) (by decide) (by decide +kernel) h14, ref_step s 44 15 16 (by decide) (by decide) (by decide +kernel) h15, ref_step s 43 16 17 (by decide) (by decide) (by decide +kernel) h16, ref_step s 42 17 18 (by decide) (by decide) (by decide +kernel) h17, ref_step s 41 18 19 (by decide) (by decide) (by decide +kernel) h18, ref_step s 40 19 20 (by decide) (by decide) (by decide +kernel) h19, ref_step s 39 20 21 (by decide) (by decide) (by decide +kernel) h20, ref_step s 38 21 22 (by decide) (by decide) (by decide +kernel) h21, ref_step s 37 22 23 (by decide) (by decide) (by decide +kernel) h22, ref_step s 36 23 24 (by decide) (by decide) (by decide +kernel) h23, ref_step s 35 24 25 (by decide) (by decide) (by decide +kernel) h24, ref_step s 34 25 26 (by decide) (by decide) (by decide +kernel) h25, ref_step s 33 26 27 (by decide) (by decide) (by decide +kernel) h26, ref_step s 32 27 28 (by decide) (by decide) (by decide +kernel) h27]
    rw [sheerlegref07_Find.l0, if_neg (by decide)]
/-- What is compared of a number. -/
def Alike (n : Int) : Prop := (∃ p, op_Name.f n = some p ∧ sheerlegref07_Name.f n = some p) ∧ (∃ p, op_Own.f n = some p ∧ sheerlegref07_Own.f n = some p) ∧ (∃ p, op_Shape.f n = some p ∧ sheerlegref07_Shape.f 60 n = some p) ∧ (∃ p, op_Need.f 60 n = some p ∧ sheerlegref07_Need.f 60 n = some p) ∧ ∃ p, op_Ends.f n = some p ∧ sheerlegref07_Ends.f n = some p
theorem both {α : Type} {a b : Option α} (h : a.isSome = true) (e : a = b) : ∃ p, a = some p ∧ b = some p := by
  cases a with
  | none => cases h
  | some x => exact ⟨x, rfl, e.symm⟩
theorem alike_in (n : Int) (h : 1 ≤ n ∧ n ≤ 28) : Alike n := by
  have h2 : n = 1 ∨ n = 2 ∨ n = 3 ∨ n = 4 ∨ n = 5 ∨ n = 6 ∨ n = 7 ∨ n = 8 ∨ n = 9 ∨ n = 10 ∨ n = 11 ∨ n = 12 ∨ n = 13 ∨ n = 14 ∨ n = 15 ∨ n = 16 ∨ n = 17 ∨ n = 18 ∨ n = 19 ∨ n = 20 ∨ n = 21 ∨ n = 22 ∨ n = 23 ∨ n = 24 ∨ n = 25 ∨ n = 26 ∨ n = 27 ∨ n = 28 := by omega
  rcases h2 with rfl | rfl | rfl | rfl | rfl | rfl | rfl | rfl | rfl | rfl | rfl | rfl | rfl | rfl | rfl | rfl | rfl | rfl | rfl | rfl | rfl | rfl | rfl | rfl | rfl | rfl | rfl | rfl <;> exact ⟨both (by decide +kernel) (by decide +kernel), both (by decide +kernel) (by decide +kernel), both (by decide +kernel) (by decide +kernel), both (by decide +kernel) (by decide +kernel), both (by decide +kernel) (by decide +kernel)⟩
theorem rname_out (n : Int) (h : n < 1 ∨ 28 < n) : sheerlegref07_Name.f n = some (⟨#[]⟩ : ByteArray) := by
  unfold sheerlegref07_Name.f sheerlegref07_names.f
  simp only [Option.bind_some]
  by_cases h0 : n < 1
  · rw [if_pos h0]
  · rw [if_neg h0, if_pos (by simp only [List.length]; omega)]
theorem alike_out (n : Int) (h : n < 1 ∨ 28 < n) : Alike n := by
  have hn := rname_out n h
  refine ⟨⟨_, name_out n h, hn⟩, ⟨false, own_out n (by omega), ?_⟩, ⟨_, shape_out n (by omega), ?_⟩, ⟨0, need_out 59 n (by omega), ?_⟩, ⟨false, ends_out n (by omega), ?_⟩⟩
  · unfold sheerlegref07_Own.f
    by_cases h0 : n ≥ 1
    · rw [if_pos h0, decide_eq_false (by omega)]
    · rw [if_neg h0]
  · unfold sheerlegref07_Shape.f
    have hj : sheerlegref07_Shape.j0 60 n false = some (⟨#[]⟩ : ByteArray) := by
      rw [sheerlegref07_Shape.j0, if_neg (by decide), hn]; decide +kernel
    by_cases h0 : n ≥ 4
    · rw [if_pos h0, decide_eq_false (by omega)]; exact hj
    · rw [if_neg h0]; exact hj
  · unfold sheerlegref07_Need.f; rw [hn]; decide +kernel
  · unfold sheerlegref07_Ends.f; rw [hn]; decide +kernel
theorem OpTells : sheerleglaw07_OpTells.Pure := by
  intro n s _ _
  refine ⟨60, ?_⟩
  have A : Alike n := by
    by_cases h : 1 ≤ n ∧ n ≤ 28
    · exact alike_in n h
    · exact alike_out n (by omega)
  obtain ⟨⟨p1, a1, b1⟩, ⟨p2, a2, b2⟩, ⟨p3, a3, b3⟩, ⟨p4, a4, b4⟩, ⟨p5, a5, b5⟩⟩ := A
  obtain ⟨p8, a8, b8⟩ := find_both s
  unfold sheerleglaw07_OpTells.f
  by_cases hs : (s.size : Int) > 50
  · rw [if_pos hs, known_ok]; rfl
  · rw [if_neg hs, a1, b1, a2, b2, a3, b3, a4, b4, a5, b5, a8, b8, known_ok]
    simp

end Go.Proofs.Ytffcgkfdjifjkaa.Pure
