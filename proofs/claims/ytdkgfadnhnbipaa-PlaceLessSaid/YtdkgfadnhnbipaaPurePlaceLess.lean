/- What the plain functions answer: the law, without program or memory. -/
import Derived.Test.YtdkgfadnhnbipaaPurePlaceLess1
namespace Go.Proofs.Ytdkgfadnhnbipaa.placeLess
open Go.AX Go.Proofs.Ytdkgfadnhnbipaa.p
set_option linter.unusedVariables false
set_option linter.unusedSimpArgs false
attribute [local congr] cond_congr
variable {ι : Type} {P : ι → Prop}
attribute [local irreducible] ROUNDS ref19_Few_L0 ref16_Few ref19_Few_L2 ref15_Few ref19_Few_L4 ref19_Few ref24_Few_L0 ref24_Few ref04_may ref04_Check_L0 ref04_Check ref05_Is ref05_Class ref01_Digits_L0 ref01_Digits ref05_Text ref19_symbol_L0 ref19_symbol_L2 ref19_symbol ref19_Check_L0 ref19_Items ref19_defines ref19_Definer_L0 ref19_Definer ref15_Check_L0 ref15_Check_L2 ref15_Check ref05_Params ref16_slots_L0 ref16_slots ref07_names ref07_Name ref07_Ends ref14_Next ref14_Check_L0_L2 ref14_Check_L0 ref14_Check ref08_Operand ref08_Check_L0 ref07_Shape ref08_Check_L2 ref08_Check ref07_Own ref16_code_L0 ref16_code ref16_lines_L0 ref16_lines ref16_Check_L0 ref16_Check ref07_Need ref17_has_L0 ref17_has ref17_Sym_L0 ref17_Sym ref17_fits ref17_refers ref05_Later ref17_slot ref05_Answers ref17_called_L0 ref17_called ref17_perhaps ref17_operand ref17_Instr_L0 ref17_Instr ref17_Check_L0 ref17_Check ref18_Marks_L0 ref18_Marks ref14_After_L0 ref14_Graph_L0 ref14_Graph ref10_Reach_L0 ref10_Reach_L2_L4_L6 ref10_Reach_L2_L4 ref10_Reach_L2 ref10_Reach ref14_After ref18_In ref18_Check_L0 ref18_Check ref19_item ref19_Check_L2 ref19_Check ref24_Bind_L0 ref23_global ref23_Find_L0_L2 ref23_Find_L0 ref23_Find ref23_Twice_L0_L2 ref23_Twice_L0 ref23_Twice ref23_Bound ref23_Check_L0_L2 ref23_Check_L0 ref23_Check ref24_program_L0_L2_L4 ref24_name ref24_number_L0 ref24_number ref24_bound_L0 ref24_bound ref24_program_L0_L2 ref15_Marks_L0_L2 ref15_Marks_L0 ref15_Marks ref15_Refs_L0 ref15_Refs ref24_program_L0_L6 ref24_program_L0 ref24_program ref24_Bind ref25_Few_L0 ref25_Few_L2 ref25_Few law29_few place_laid place_funs prologue_has prologue_Size place_funsfn1 place_Starts_round0 ref28_Kept ref28_Check ref28_Size ref29_start_L0 ref29_start ref29_Starts_L0 ref29_Starts ref01_Ints_L0 ref01_Ints place_Code_round0 ref29_Code place_laidv1 place_dats place_datsfn1 place_Addrs_round0 ref29_addr_L0 ref29_addr ref29_Addrs_L0 ref29_Addrs place_Words_round0 ref29_Words num_Near fun_Frame place_Fns_round0 place_laidfn1_L0 place_laidfn1 place_Starts place_laidfn1v1_L0 place_laidfn1v1 place_Code place_laidfn1v2_L0 place_laidfn1v2 place_Addrs place_laidfn1v3_L0 place_laidfn1v3 place_Words place_Fns_round0v1 place_laidfn1v4_L0 place_laidfn1v4 place_Fns ref01_Near ref16_Frame ref29_Fns_L0 ref29_Fns ref29_Same_L0 ref29_Same law29_PlaceLess_L0 place_laidv2 place_funsv1 prologue_hasv1 prologue_Sizev1 place_funsfn1v1 place_laidfn1v5_L0 place_laidfn1v5 place_Startsv1 law29_PlaceLess_L2 place_laidfn1v6_L0 place_laidfn1v6 place_Codev1 law29_fewv1 law29_PlaceData_L0
theorem ref24_name_c {o : Obj} {i : Int} {H1 : ByteArray → (ι → O) → O} (hd : DefOk o i) (h1 : ∀ s : ByteArray, T P (H1 s)) : T P (fun K => ref24_name o i (fun a => H1 a K)) := by
  obtain ⟨n, p1, p2, e⟩ := hd
  unfold ref24_name ref24_name.body
  refine T.eq ?_ (fun K => e _)
  exact tna (by omega) (by omega) (h1 _)

theorem ref24_number_L0_c : ∀ {m : Nat} {ts757 : List Obj} {n758 : Int} {n759 : Int} {n760 : Int} {t761 : Sym} {H1 : Int → (ι → O) → O} (g0 : szL ts757) (g1 : 0 ≤ n760) (g2 : n760 ≤ n758) (g3 : n758 ≤ 1000000) (g4 : n758 < n760 + m) (g5 : n758 ≤ (ts757.length : Int))
    (h1 : ∀ (a0 : Int), T P (H1 a0)),
    T P (fun K => ref24_number_L0 m ts757 n758 n759 n760 t761 (fun a0 => H1 a0 K)) := by
  intro m
  induction m with
  | zero => intros; omega
  | succ m ih =>
    intro ts757 n758 n759 n760 t761 H1 g0 g1 g2 g3 g4 g5 h1
    rw [ref24_number_L0]
    unfold ref24_number_L0.body
    have z0_n760 := szL_get (i := Int.toNat n760) g0
    obtain ⟨_, _, _, _, _, _⟩ := z0_n760
    have z0 := szL_len g0
    have := wr64 ((n759 + (((List.length (List.getD ts757 (Int.toNat n760) ([], ([], ([], ())))).2.1) : Nat) : Int)))
    have := wr64 ((n760 + (1 : Int)))
    have := wr64 ((n759 + (((List.length (List.getD ts757 (Int.toNat n760) ([], ([], ([], ())))).2.2.1) : Nat) : Int)))
    repeat' first
      | (intro q; try subst q)
      | ((with_reducible refine h1 _))
      | ((with_reducible refine tna ?_ ?_ ?_); omega; omega)
      | ((with_reducible refine tnb ?_ ?_); focus (first | omega | (first | with_reducible rfl | assumption | omega | solve_by_elim [szL_get, szO_f, szO_d, szO_s])))
      | ((with_reducible refine tn ?_ ?_); assumption)
      | with_reducible refine tct ?_
      | with_reducible refine tcf ?_
      | with_reducible refine tcn ?_
      | with_reducible refine tcd ?_ ?_
      | with_reducible refine tce ?_ ?_
      | with_reducible refine tcne ?_ ?_
      | with_reducible refine tc ?_ ?_
      | ((with_reducible refine ih ?_ ?_ ?_ ?_ ?_ ?_ h1) <;> try (first | with_reducible rfl | assumption | omega | solve_by_elim [szL_get, szO_f, szO_d, szO_s]))

theorem ref24_number_c {ts : List Obj} {i j : Int} {H1 : Int → (ι → O) → O} (hL : szL ts) (hb : BoundOk ts i j) (h1 : ∀ n : Int, T P (H1 n)) : T P (fun K => ref24_number ts i j (fun a => H1 a K)) := by
  obtain ⟨a, b, ⟨v1, v2, v3, v4⟩, e⟩ := hb
  have := rb
  have := szL_len hL
  unfold ref24_number ref24_number.body
  refine T.eq ?_ (fun K => e _)
  exact tna (by omega) (by omega) (tna (by omega) (by omega) (ref24_number_L0_c hL (by omega) (by omega) (by omega) (by omega) (by omega) h1))

theorem ref24_bound_L0_c : ∀ {m : Nat} {ts746 : List Obj} {n747 : Int} {ns748 : List Int} {n749 : Int} {ns750 : List Int} {H1 : (List Int) → (ι → O) → O} (g0 : szL ts746) (g1 : ns748.length ≤ 1000000) (g2 : 0 ≤ n749) (g3 : n749 ≤ (((List.length ns748) : Nat) : Int)) (g4 : (((List.length ns748) : Nat) : Int) < n749 + m) (g5 : ∀ j : Int, 0 ≤ j → j < (ns748.length : Int) → 0 ≤ List.getD ns748 (Int.toNat j) 0 → BoundOk ts746 n747 (List.getD ns748 (Int.toNat j) 0)) (g6 : (ns750.length : Int) ≤ n749)
    (h1 : ∀ (a0 : List Int), (a0.length ≤ 1000000) → T P (H1 a0)),
    T P (fun K => ref24_bound_L0 m ts746 n747 ns748 n749 ns750 (fun a0 => H1 a0 K)) := by
  intro m
  induction m with
  | zero => intros; omega
  | succ m ih =>
    intro ts746 n747 ns748 n749 ns750 H1 g0 g1 g2 g3 g4 g5 g6 h1
    rw [ref24_bound_L0]
    unfold ref24_bound_L0.body
    have z0 := szL_len g0
    have := wr64 ((n749 + (1 : Int)))
    repeat' first
      | (intro q; try subst q)
      | ((with_reducible refine h1 _ ?_) <;> try (first | exact g5 _ (by omega) (by omega) (by omega) | (simp only [List.length_append, List.length_cons, List.length_nil] <;> omega) | with_reducible rfl | assumption | omega | solve_by_elim [szL_get, szO_f, szO_d, szO_s]))
      | ((with_reducible refine tna ?_ ?_ ?_); omega; omega)
      | ((with_reducible refine tnb ?_ ?_); focus (first | omega | (first | exact g5 _ (by omega) (by omega) (by omega) | (simp only [List.length_append, List.length_cons, List.length_nil] <;> omega) | with_reducible rfl | assumption | omega | solve_by_elim [szL_get, szO_f, szO_d, szO_s])))
      | ((with_reducible refine tn ?_ ?_); assumption)
      | with_reducible refine tct ?_
      | with_reducible refine tcf ?_
      | with_reducible refine tcn ?_
      | with_reducible refine tcd ?_ ?_
      | with_reducible refine tce ?_ ?_
      | with_reducible refine tcne ?_ ?_
      | with_reducible refine tc ?_ ?_
      | ((with_reducible refine ih ?_ ?_ ?_ ?_ ?_ ?_ ?_ h1) <;> try (first | exact g5 _ (by omega) (by omega) (by omega) | (simp only [List.length_append, List.length_cons, List.length_nil] <;> omega) | with_reducible rfl | assumption | omega | solve_by_elim [szL_get, szO_f, szO_d, szO_s]))
      | ((with_reducible refine ref24_number_c ?_ ?_ ?_) <;> try (first | exact g5 _ (by omega) (by omega) (by omega) | (simp only [List.length_append, List.length_cons, List.length_nil] <;> omega) | with_reducible rfl | assumption | omega | solve_by_elim [szL_get, szO_f, szO_d, szO_s]))

theorem ref24_bound_c {ts743 : List Obj} {n744 : Int} {ns745 : List Int} {H1 : (List Int) → (ι → O) → O} (g0 : szL ts743) (g1 : ns745.length ≤ 1000000) (g2 : ∀ j : Int, 0 ≤ j → j < (ns745.length : Int) → 0 ≤ List.getD ns745 (Int.toNat j) 0 → BoundOk ts743 n744 (List.getD ns745 (Int.toNat j) 0))
    (h1 : ∀ (a0 : List Int), (a0.length ≤ 1000000) → T P (H1 a0)) :
    T P (fun K => ref24_bound ts743 n744 ns745 (fun a0 => H1 a0 K)) := by
  unfold ref24_bound ref24_bound.body
  have z0 := szL_len g0
  have := rb
  repeat' first
    | (intro q; try subst q)
    | ((with_reducible refine h1 _ ?_) <;> try (first | (simp only [List.length_nil] <;> omega) | with_reducible rfl | assumption | omega | solve_by_elim [szL_get, szO_f, szO_d, szO_s]))
    | ((with_reducible refine tna ?_ ?_ ?_); omega; omega)
    | ((with_reducible refine tnb ?_ ?_); focus (first | omega | (first | (simp only [List.length_nil] <;> omega) | with_reducible rfl | assumption | omega | solve_by_elim [szL_get, szO_f, szO_d, szO_s])))
    | ((with_reducible refine tn ?_ ?_); assumption)
    | with_reducible refine tct ?_
    | with_reducible refine tcf ?_
    | with_reducible refine tcn ?_
    | with_reducible refine tcd ?_ ?_
    | with_reducible refine tce ?_ ?_
    | with_reducible refine tcne ?_ ?_
    | with_reducible refine tc ?_ ?_
    | ((with_reducible refine ref24_bound_L0_c ?_ ?_ ?_ ?_ ?_ ?_ ?_ ?_) <;> try (first | (simp only [List.length_nil] <;> omega) | with_reducible rfl | assumption | omega | solve_by_elim [szL_get, szO_f, szO_d, szO_s]))

theorem ref24_program_L0_L2_c : ∀ {m : Nat} {ts705 : List Obj} {n706 : Int} {n707 : Int} {n708 : Int} {n709 : Int} {ts710 : List Fun_} {ts711 : List Dat_} {l712 : List Sym} {l713 : List Func} {l714 : List Data} {B : Int} {H1 : (List Obj) → Int → Int → Int → (List Fun_) → (List Dat_) → (List Sym) → (List Func) → (List Data) → (ι → O) → O} (g0 : szL ts705) (g1 : 0 ≤ n707) (g2 : n707 ≤ (((List.length l713) : Nat) : Int)) (g3 : (((List.length l713) : Nat) : Int) < n707 + m) (g4 : szO (l712, (l713, (l714, ())))) (g5 : objOk (l712, (l713, (l714, ())))) (g6 : ∀ j : Int, 0 ≤ j → j < (l712.length : Int) → BoundOk ts705 n706 j) (g7 : (ts710.length : Int) ≤ B + n707) (g8 : 0 ≤ B ∧ B ≤ 1000000000)
    (h1 : ∀ (a0 : List Obj) (a1 : Int) (a2 : Int) (a3 : Int) (a4 : List Fun_) (a5 : List Dat_) (a6 : List Sym) (a7 : List Func) (a8 : List Data), ts705 = a0 → n706 = a1 → n708 = a2 → n709 = a3 → ts711 = a5 → l712 = a6 → l713 = a7 → l714 = a8 → ((a4.length : Int) ≤ B + 1000) → T P (H1 a0 a1 a2 a3 a4 a5 a6 a7 a8)),
    T P (fun K => ref24_program_L0_L2 m ts705 n706 n707 n708 n709 ts710 ts711 l712 l713 l714 (fun a0 a1 a2 a3 a4 a5 a6 a7 a8 => H1 a0 a1 a2 a3 a4 a5 a6 a7 a8 K)) := by
  intro m
  induction m with
  | zero => intros; omega
  | succ m ih =>
    intro ts705 n706 n707 n708 n709 ts710 ts711 l712 l713 l714 B H1 g0 g1 g2 g3 g4 g5 g6 g7 g8 h1
    rw [ref24_program_L0_L2]
    unfold ref24_program_L0_L2.body
    have z0 := szL_len g0
    have z4 := g4
    obtain ⟨_, _, _, _, _, _⟩ := z4
    have := wr64 ((n707 + (1 : Int)))
    have := rb
    have hz : l713.length ≤ 1000 := g4.2.1
    have hzf : szF (List.getD l713 (Int.toNat n707) ((0 : Int), ([], ((0 : Int), (false, ((0 : Int), ((0 : Int), ([], ([], ([], ())))))))))) := szO_f g4
    have hz2 := hzf
    obtain ⟨_, _, _, _⟩ := hz2
    have hit : n707 < (l713.length : Int) → itemOk (l712, (l713, (l714, ()))) n707 := fun h => g5 n707 (by omega) (by show _ < (List.length l713 : Int) + (List.length l714 : Int); omega)
    repeat' first
      | (intro q; try subst q)
      | ((with_reducible refine h1 _ _ _ _ _ _ _ _ _ ?_ ?_ ?_ ?_ ?_ ?_ ?_ ?_ ?_) <;> try (first | exact (hit (by omega)).2.1 (by assumption) | exact (hit (by omega)).1 | exact inN_nil | (intro j hj1 hj2 hj3; exact g6 _ hj3 ((by assumption : inN _ _) j hj1 hj2 hj3)) | (simp only [List.length_append, List.length_cons, List.length_nil] <;> omega) | with_reducible rfl | assumption | omega | solve_by_elim [szL_get, szO_f, szO_d, szO_s]))
      | ((with_reducible refine tna ?_ ?_ ?_); omega; omega)
      | ((with_reducible refine tnb ?_ ?_); focus (first | omega | (first | exact (hit (by omega)).2.1 (by assumption) | exact (hit (by omega)).1 | exact inN_nil | (intro j hj1 hj2 hj3; exact g6 _ hj3 ((by assumption : inN _ _) j hj1 hj2 hj3)) | (simp only [List.length_append, List.length_cons, List.length_nil] <;> omega) | with_reducible rfl | assumption | omega | solve_by_elim [szL_get, szO_f, szO_d, szO_s])))
      | ((with_reducible refine tn ?_ ?_); assumption)
      | with_reducible refine tct ?_
      | with_reducible refine tcf ?_
      | with_reducible refine tcn ?_
      | with_reducible refine tcd ?_ ?_
      | with_reducible refine tce ?_ ?_
      | with_reducible refine tcne ?_ ?_
      | with_reducible refine tc ?_ ?_
      | ((with_reducible refine ih ?_ ?_ ?_ ?_ ?_ ?_ ?_ ?_ ?_ h1) <;> try (first | exact (hit (by omega)).2.1 (by assumption) | exact (hit (by omega)).1 | exact inN_nil | (intro j hj1 hj2 hj3; exact g6 _ hj3 ((by assumption : inN _ _) j hj1 hj2 hj3)) | (simp only [List.length_append, List.length_cons, List.length_nil] <;> omega) | with_reducible rfl | assumption | omega | solve_by_elim [szL_get, szO_f, szO_d, szO_s]))
      | ((with_reducible refine ref24_name_c ?_ ?_) <;> try (first | exact (hit (by omega)).2.1 (by assumption) | exact (hit (by omega)).1 | exact inN_nil | (intro j hj1 hj2 hj3; exact g6 _ hj3 ((by assumption : inN _ _) j hj1 hj2 hj3)) | (simp only [List.length_append, List.length_cons, List.length_nil] <;> omega) | with_reducible rfl | assumption | omega | solve_by_elim [szL_get, szO_f, szO_d, szO_s]))
      | ((with_reducible refine ref24_bound_c ?_ ?_ ?_ ?_) <;> try (first | exact (hit (by omega)).2.1 (by assumption) | exact (hit (by omega)).1 | exact inN_nil | (intro j hj1 hj2 hj3; exact g6 _ hj3 ((by assumption : inN _ _) j hj1 hj2 hj3)) | (simp only [List.length_append, List.length_cons, List.length_nil] <;> omega) | with_reducible rfl | assumption | omega | solve_by_elim [szL_get, szO_f, szO_d, szO_s]))
      | ((with_reducible refine ref24_program_L0_L2_L4_c ?_ ?_ ?_ ?_ ?_ ?_ ?_ ?_ ?_ ?_ ?_) <;> try (first | exact (hit (by omega)).2.1 (by assumption) | exact (hit (by omega)).1 | exact inN_nil | (intro j hj1 hj2 hj3; exact g6 _ hj3 ((by assumption : inN _ _) j hj1 hj2 hj3)) | (simp only [List.length_append, List.length_cons, List.length_nil] <;> omega) | with_reducible rfl | assumption | omega | solve_by_elim [szL_get, szO_f, szO_d, szO_s]))

theorem ref15_Marks_L0_L2_c : ∀ {m : Nat} {ts793 : List Reloc} {n794 : Int} {n795 : Int} {n796 : Int} {n797 : Int} {ns798 : List Int} {H1 : (List Reloc) → Int → Int → Int → (List Int) → (ι → O) → O} (g0 : ts793.length ≤ 1000000) (g1 : -1 ≤ n797) (g2 : n797 < (ts793.length : Int)) (g3 : n797 + 1 < m) (g4 : -1 ≤ n796) (g5 : n796 < (ts793.length : Int))
    (h1 : ∀ (a0 : List Reloc) (a1 : Int) (a2 : Int) (a3 : Int) (a4 : List Int), ts793 = a0 → n794 = a1 → n795 = a2 → ns798 = a4 → (-1 ≤ a3) → (a3 < (ts793.length : Int)) → T P (H1 a0 a1 a2 a3 a4)),
    T P (fun K => ref15_Marks_L0_L2 m ts793 n794 n795 n796 n797 ns798 (fun a0 a1 a2 a3 a4 => H1 a0 a1 a2 a3 a4 K)) := by
  intro m
  induction m with
  | zero => intros; omega
  | succ m ih =>
    intro ts793 n794 n795 n796 n797 ns798 H1 g0 g1 g2 g3 g4 g5 h1
    rw [ref15_Marks_L0_L2]
    unfold ref15_Marks_L0_L2.body
    have := wr64 ((n797 - (1 : Int)))
    repeat' first
      | (intro q; try subst q)
      | ((with_reducible refine h1 _ _ _ _ _ ?_ ?_ ?_ ?_ ?_ ?_) <;> try (first | with_reducible rfl | assumption | omega | solve_by_elim [szL_get, szO_f, szO_d, szO_s]))
      | ((with_reducible refine tna ?_ ?_ ?_); omega; omega)
      | ((with_reducible refine tnb ?_ ?_); focus (first | omega | (first | with_reducible rfl | assumption | omega | solve_by_elim [szL_get, szO_f, szO_d, szO_s])))
      | ((with_reducible refine tn ?_ ?_); assumption)
      | with_reducible refine tct ?_
      | with_reducible refine tcf ?_
      | with_reducible refine tcn ?_
      | with_reducible refine tcd ?_ ?_
      | with_reducible refine tce ?_ ?_
      | with_reducible refine tcne ?_ ?_
      | with_reducible refine tc ?_ ?_
      | ((with_reducible refine ih ?_ ?_ ?_ ?_ ?_ ?_ h1) <;> try (first | with_reducible rfl | assumption | omega | solve_by_elim [szL_get, szO_f, szO_d, szO_s]))

theorem ref15_Marks_L0_c : ∀ {m : Nat} {ts789 : List Reloc} {n790 : Int} {n791 : Int} {ns792 : List Int} {H1 : (List Int) → (ι → O) → O} (g0 : ts789.length ≤ 1000000) (g1 : 0 ≤ n791) (g2 : n791 ≤ n790) (g3 : n790 ≤ 1000000) (g4 : n790 < n791 + m) (g5 : (ns792.length : Int) ≤ n791) (g6 : inN ns792 ts789.length)
    (h1 : ∀ (a0 : List Int), (a0.length ≤ 1000000) → (inN a0 ts789.length) → T P (H1 a0)),
    T P (fun K => ref15_Marks_L0 m ts789 n790 n791 ns792 (fun a0 => H1 a0 K)) := by
  intro m
  induction m with
  | zero => intros; omega
  | succ m ih =>
    intro ts789 n790 n791 ns792 H1 g0 g1 g2 g3 g4 g5 g6 h1
    rw [ref15_Marks_L0]
    unfold ref15_Marks_L0.body
    have := wr64 (((((List.length ts789) : Nat) : Int) - (1 : Int)))
    have := wr64 ((n791 + (1 : Int)))
    have := rb
    have := wr64 ((ts789.length : Int) - 1)
    repeat' first
      | (intro q; try subst q)
      | ((with_reducible refine h1 _ ?_ ?_) <;> try (first | (exact inN_app (by assumption) (fun _ => by omega)) | (simp only [List.length_append, List.length_cons, List.length_nil] <;> omega) | with_reducible rfl | assumption | omega | solve_by_elim [szL_get, szO_f, szO_d, szO_s]))
      | ((with_reducible refine tna ?_ ?_ ?_); omega; omega)
      | ((with_reducible refine tnb ?_ ?_); focus (first | omega | (first | (exact inN_app (by assumption) (fun _ => by omega)) | (simp only [List.length_append, List.length_cons, List.length_nil] <;> omega) | with_reducible rfl | assumption | omega | solve_by_elim [szL_get, szO_f, szO_d, szO_s])))
      | ((with_reducible refine tn ?_ ?_); assumption)
      | with_reducible refine tct ?_
      | with_reducible refine tcf ?_
      | with_reducible refine tcn ?_
      | with_reducible refine tcd ?_ ?_
      | with_reducible refine tce ?_ ?_
      | with_reducible refine tcne ?_ ?_
      | with_reducible refine tc ?_ ?_
      | ((with_reducible refine ih ?_ ?_ ?_ ?_ ?_ ?_ ?_ h1) <;> try (first | (exact inN_app (by assumption) (fun _ => by omega)) | (simp only [List.length_append, List.length_cons, List.length_nil] <;> omega) | with_reducible rfl | assumption | omega | solve_by_elim [szL_get, szO_f, szO_d, szO_s]))
      | ((with_reducible refine ref15_Marks_L0_L2_c ?_ ?_ ?_ ?_ ?_ ?_ ?_) <;> try (first | (exact inN_app (by assumption) (fun _ => by omega)) | (simp only [List.length_append, List.length_cons, List.length_nil] <;> omega) | with_reducible rfl | assumption | omega | solve_by_elim [szL_get, szO_f, szO_d, szO_s]))

theorem ref15_Marks_c {ts787 : List Reloc} {n788 : Int} {H1 : (List Int) → (ι → O) → O} (g0 : ts787.length ≤ 1000000) (g1 : 0 ≤ n788) (g2 : n788 ≤ 1000000)
    (h1 : ∀ (a0 : List Int), (a0.length ≤ 1000000) → (inN a0 ts787.length) → T P (H1 a0)) :
    T P (fun K => ref15_Marks ts787 n788 (fun a0 => H1 a0 K)) := by
  unfold ref15_Marks ref15_Marks.body
  have := rb
  repeat' first
    | (intro q; try subst q)
    | ((with_reducible refine h1 _ ?_ ?_) <;> try (first | exact inN_nil | (simp only [List.length_nil] <;> omega) | with_reducible rfl | assumption | omega | solve_by_elim [szL_get, szO_f, szO_d, szO_s]))
    | ((with_reducible refine tna ?_ ?_ ?_); omega; omega)
    | ((with_reducible refine tnb ?_ ?_); focus (first | omega | (first | exact inN_nil | (simp only [List.length_nil] <;> omega) | with_reducible rfl | assumption | omega | solve_by_elim [szL_get, szO_f, szO_d, szO_s])))
    | ((with_reducible refine tn ?_ ?_); assumption)
    | with_reducible refine tct ?_
    | with_reducible refine tcf ?_
    | with_reducible refine tcn ?_
    | with_reducible refine tcd ?_ ?_
    | with_reducible refine tce ?_ ?_
    | with_reducible refine tcne ?_ ?_
    | with_reducible refine tc ?_ ?_
    | ((with_reducible refine ref15_Marks_L0_c ?_ ?_ ?_ ?_ ?_ ?_ ?_ ?_) <;> try (first | exact inN_nil | (simp only [List.length_nil] <;> omega) | with_reducible rfl | assumption | omega | solve_by_elim [szL_get, szO_f, szO_d, szO_s]))

theorem ref15_Refs_L0_c : ∀ {m : Nat} {n806 : Int} {t807 : Data} {ns808 : List Int} {N : Nat} {H1 : (List Int) → (ι → O) → O} (g0 : szD t807) (g1 : 0 ≤ n806) (g2 : n806 ≤ (((List.length ns808) : Nat) : Int)) (g3 : (((List.length ns808) : Nat) : Int) < n806 + m) (g4 : ns808.length ≤ 1000000) (g5 : datOk t807 N) (g6 : ∀ j : Int, n806 ≤ j → j < (ns808.length : Int) → 0 ≤ List.getD ns808 (Int.toNat j) 0 → List.getD ns808 (Int.toNat j) 0 < (t807.2.2.1.length : Int)) (g7 : ∀ j : Int, 0 ≤ j → j < n806 → 0 ≤ List.getD ns808 (Int.toNat j) 0 → List.getD ns808 (Int.toNat j) 0 < (N : Int))
    (h1 : ∀ (a0 : List Int), (a0.length ≤ 1000000) → (inN a0 N) → T P (H1 a0)),
    T P (fun K => ref15_Refs_L0 m n806 t807 ns808 (fun a0 => H1 a0 K)) := by
  intro m
  induction m with
  | zero => intros; omega
  | succ m ih =>
    intro n806 t807 ns808 N H1 g0 g1 g2 g3 g4 g5 g6 g7 h1
    rw [ref15_Refs_L0]
    unfold ref15_Refs_L0.body
    have z0 := g0
    obtain ⟨_, _⟩ := z0
    have := wr64 ((n806 + (1 : Int)))
    have hq := g6 n806 (Int.le_refl _)
    repeat' first
      | (intro q; try subst q)
      | ((with_reducible refine h1 _ ?_ ?_) <;> try (first | (rw [List.length_set]; first | assumption | omega) | (intro j hj1 hj2 hj3; exact g7 j hj1 (by omega) hj3) | (intro j hj1 hj2; rw [List.length_set] at hj2; rw [getD_set (by omega), if_neg (by omega)]; exact g6 j (by omega) (by omega)) | (intro j hj1 hj2; exact g6 j (by omega) (by omega)) | (intro j hj1 hj2; rw [getD_set (by omega)]; split; exact fun _ => g5 _ (by omega) (g6 _ (by omega) (by omega) (by omega)); exact g7 j hj1 (by omega)) | (intro j hj1 hj2; by_cases hj : j < n806; exact g7 j hj1 hj; obtain rfl : j = n806 := (by omega); intro _; omega) | with_reducible rfl | assumption | omega | solve_by_elim [szL_get, szO_f, szO_d, szO_s]))
      | ((with_reducible refine tna ?_ ?_ ?_); omega; omega)
      | ((with_reducible refine tnb ?_ ?_); focus (first | omega | (first | (rw [List.length_set]; first | assumption | omega) | (intro j hj1 hj2 hj3; exact g7 j hj1 (by omega) hj3) | (intro j hj1 hj2; rw [List.length_set] at hj2; rw [getD_set (by omega), if_neg (by omega)]; exact g6 j (by omega) (by omega)) | (intro j hj1 hj2; exact g6 j (by omega) (by omega)) | (intro j hj1 hj2; rw [getD_set (by omega)]; split; exact fun _ => g5 _ (by omega) (g6 _ (by omega) (by omega) (by omega)); exact g7 j hj1 (by omega)) | (intro j hj1 hj2; by_cases hj : j < n806; exact g7 j hj1 hj; obtain rfl : j = n806 := (by omega); intro _; omega) | with_reducible rfl | assumption | omega | solve_by_elim [szL_get, szO_f, szO_d, szO_s])))
      | ((with_reducible refine tn ?_ ?_); assumption)
      | with_reducible refine tct ?_
      | with_reducible refine tcf ?_
      | with_reducible refine tcn ?_
      | with_reducible refine tcd ?_ ?_
      | with_reducible refine tce ?_ ?_
      | with_reducible refine tcne ?_ ?_
      | with_reducible refine tc ?_ ?_
      | ((with_reducible refine ih ?_ ?_ ?_ ?_ ?_ ?_ ?_ ?_ h1) <;> try (first | (rw [List.length_set]; first | assumption | omega) | (intro j hj1 hj2 hj3; exact g7 j hj1 (by omega) hj3) | (intro j hj1 hj2; rw [List.length_set] at hj2; rw [getD_set (by omega), if_neg (by omega)]; exact g6 j (by omega) (by omega)) | (intro j hj1 hj2; exact g6 j (by omega) (by omega)) | (intro j hj1 hj2; rw [getD_set (by omega)]; split; exact fun _ => g5 _ (by omega) (g6 _ (by omega) (by omega) (by omega)); exact g7 j hj1 (by omega)) | (intro j hj1 hj2; by_cases hj : j < n806; exact g7 j hj1 hj; obtain rfl : j = n806 := (by omega); intro _; omega) | with_reducible rfl | assumption | omega | solve_by_elim [szL_get, szO_f, szO_d, szO_s]))

theorem ref15_Refs_c {t786 : Data} {N : Nat} {H1 : (List Int) → (ι → O) → O} (g0 : szD t786) (g1 : datOk t786 N)
    (h1 : ∀ (a0 : List Int), (a0.length ≤ 1000000) → (inN a0 N) → T P (H1 a0)) :
    T P (fun K => ref15_Refs t786 (fun a0 => H1 a0 K)) := by
  unfold ref15_Refs ref15_Refs.body
  have z0 := g0
  obtain ⟨_, _⟩ := z0
  have := rb
  repeat' first
    | (intro q; try subst q)
    | ((with_reducible refine h1 _ ?_ ?_) <;> try (first | (intro j hj1 hj2; omega) | (intro j hj1 hj2 hj3; solve_by_elim)  | with_reducible rfl | assumption | omega | solve_by_elim [szL_get, szO_f, szO_d, szO_s]))
    | ((with_reducible refine tna ?_ ?_ ?_); omega; omega)
    | ((with_reducible refine tnb ?_ ?_); focus (first | omega | (first | (intro j hj1 hj2; omega) | (intro j hj1 hj2 hj3; solve_by_elim)  | with_reducible rfl | assumption | omega | solve_by_elim [szL_get, szO_f, szO_d, szO_s])))
    | ((with_reducible refine tn ?_ ?_); assumption)
    | with_reducible refine tct ?_
    | with_reducible refine tcf ?_
    | with_reducible refine tcn ?_
    | with_reducible refine tcd ?_ ?_
    | with_reducible refine tce ?_ ?_
    | with_reducible refine tcne ?_ ?_
    | with_reducible refine tc ?_ ?_
    | ((with_reducible refine ref15_Marks_c ?_ ?_ ?_ ?_) <;> try (first | (intro j hj1 hj2; omega) | (intro j hj1 hj2 hj3; solve_by_elim)  | with_reducible rfl | assumption | omega | solve_by_elim [szL_get, szO_f, szO_d, szO_s]))
    | ((with_reducible refine ref15_Refs_L0_c (N := N) ?_ ?_ ?_ ?_ ?_ ?_ ?_ ?_ ?_) <;> try (first | (intro j hj1 hj2; omega) | (intro j hj1 hj2 hj3; solve_by_elim)  | with_reducible rfl | assumption | omega | solve_by_elim [szL_get, szO_f, szO_d, szO_s]))

theorem ref24_program_L0_L6_c : ∀ {m : Nat} {ts775 : List Obj} {n776 : Int} {n777 : Int} {n778 : Int} {n779 : Int} {ts780 : List Fun_} {ts781 : List Dat_} {l782 : List Sym} {l783 : List Func} {l784 : List Data} {B : Int} {H1 : (List Obj) → Int → Int → Int → (List Fun_) → (List Dat_) → (ι → O) → O} (g0 : szL ts775) (g1 : 0 ≤ n777) (g2 : n777 ≤ (((List.length l784) : Nat) : Int)) (g3 : (((List.length l784) : Nat) : Int) < n777 + m) (g4 : szO (l782, (l783, (l784, ())))) (g5 : objOk (l782, (l783, (l784, ())))) (g6 : ∀ j : Int, 0 ≤ j → j < (l782.length : Int) → BoundOk ts775 n776 j) (g7 : (ts781.length : Int) ≤ B + n777) (g8 : 0 ≤ B ∧ B ≤ 1000000000)
    (h1 : ∀ (a0 : List Obj) (a1 : Int) (a2 : Int) (a3 : Int) (a4 : List Fun_) (a5 : List Dat_), ts775 = a0 → n776 = a1 → n778 = a2 → n779 = a3 → ts780 = a4 → ((a5.length : Int) ≤ B + 1000) → T P (H1 a0 a1 a2 a3 a4 a5)),
    T P (fun K => ref24_program_L0_L6 m ts775 n776 n777 n778 n779 ts780 ts781 l782 l783 l784 (fun a0 a1 a2 a3 a4 a5 => H1 a0 a1 a2 a3 a4 a5 K)) := by
  intro m
  induction m with
  | zero => intros; omega
  | succ m ih =>
    intro ts775 n776 n777 n778 n779 ts780 ts781 l782 l783 l784 B H1 g0 g1 g2 g3 g4 g5 g6 g7 g8 h1
    rw [ref24_program_L0_L6]
    unfold ref24_program_L0_L6.body
    have z0 := szL_len g0
    have z4 := g4
    obtain ⟨_, _, _, _, _, _⟩ := z4
    have := wr64 (((((List.length l783) : Nat) : Int) + n777))
    have := wr64 ((n777 + (1 : Int)))
    have hz : l784.length ≤ 1000 := g4.2.2.1
    have hz8 : l783.length ≤ 1000 := g4.2.1
    have hzd : szD (List.getD l784 (Int.toNat n777) ((0 : Int), ([], ([], ())))) := szO_d g4
    have hw := wr64 (((l783.length : Nat) : Int) + n777)
    have hit : n777 < (l784.length : Int) → itemOk (l782, (l783, (l784, ()))) ((l783.length : Int) + n777) := fun h => g5 _ (by omega) (by show _ < (List.length l783 : Int) + (List.length l784 : Int); omega)
    have hdat : n777 < (l784.length : Int) → datOk (List.getD l784 (Int.toNat n777) ((0 : Int), ([], ([], ())))) l782.length := fun h => dat_of (o := (l782, (l783, (l784, ())))) (hit h) (by omega)
    repeat' first
      | (intro q; try subst q)
      | ((with_reducible refine h1 _ _ _ _ _ _ ?_ ?_ ?_ ?_ ?_ ?_) <;> try (first | exact hdat (by omega) | (rw [hw ⟨by omega, by omega⟩]; exact (hit (by omega)).1) | (intro j hj1 hj2 hj3; exact g6 _ hj3 ((by assumption : inN _ _) j hj1 hj2 hj3)) | (simp only [List.length_append, List.length_cons, List.length_nil] <;> omega) | with_reducible rfl | assumption | omega | solve_by_elim [szL_get, szO_f, szO_d, szO_s]))
      | ((with_reducible refine tna ?_ ?_ ?_); omega; omega)
      | ((with_reducible refine tnb ?_ ?_); focus (first | omega | (first | exact hdat (by omega) | (rw [hw ⟨by omega, by omega⟩]; exact (hit (by omega)).1) | (intro j hj1 hj2 hj3; exact g6 _ hj3 ((by assumption : inN _ _) j hj1 hj2 hj3)) | (simp only [List.length_append, List.length_cons, List.length_nil] <;> omega) | with_reducible rfl | assumption | omega | solve_by_elim [szL_get, szO_f, szO_d, szO_s])))
      | ((with_reducible refine tn ?_ ?_); assumption)
      | with_reducible refine tct ?_
      | with_reducible refine tcf ?_
      | with_reducible refine tcn ?_
      | with_reducible refine tcd ?_ ?_
      | with_reducible refine tce ?_ ?_
      | with_reducible refine tcne ?_ ?_
      | with_reducible refine tc ?_ ?_
      | ((with_reducible refine ih ?_ ?_ ?_ ?_ ?_ ?_ ?_ ?_ ?_ h1) <;> try (first | exact hdat (by omega) | (rw [hw ⟨by omega, by omega⟩]; exact (hit (by omega)).1) | (intro j hj1 hj2 hj3; exact g6 _ hj3 ((by assumption : inN _ _) j hj1 hj2 hj3)) | (simp only [List.length_append, List.length_cons, List.length_nil] <;> omega) | with_reducible rfl | assumption | omega | solve_by_elim [szL_get, szO_f, szO_d, szO_s]))
      | ((with_reducible refine ref24_name_c ?_ ?_) <;> try (first | exact hdat (by omega) | (rw [hw ⟨by omega, by omega⟩]; exact (hit (by omega)).1) | (intro j hj1 hj2 hj3; exact g6 _ hj3 ((by assumption : inN _ _) j hj1 hj2 hj3)) | (simp only [List.length_append, List.length_cons, List.length_nil] <;> omega) | with_reducible rfl | assumption | omega | solve_by_elim [szL_get, szO_f, szO_d, szO_s]))
      | ((with_reducible refine ref15_Refs_c (N := l782.length) ?_ ?_ ?_) <;> try (first | exact hdat (by omega) | (rw [hw ⟨by omega, by omega⟩]; exact (hit (by omega)).1) | (intro j hj1 hj2 hj3; exact g6 _ hj3 ((by assumption : inN _ _) j hj1 hj2 hj3)) | (simp only [List.length_append, List.length_cons, List.length_nil] <;> omega) | with_reducible rfl | assumption | omega | solve_by_elim [szL_get, szO_f, szO_d, szO_s]))
      | ((with_reducible refine ref24_bound_c ?_ ?_ ?_ ?_) <;> try (first | exact hdat (by omega) | (rw [hw ⟨by omega, by omega⟩]; exact (hit (by omega)).1) | (intro j hj1 hj2 hj3; exact g6 _ hj3 ((by assumption : inN _ _) j hj1 hj2 hj3)) | (simp only [List.length_append, List.length_cons, List.length_nil] <;> omega) | with_reducible rfl | assumption | omega | solve_by_elim [szL_get, szO_f, szO_d, szO_s]))

theorem ref24_program_L0_c : ∀ {m : Nat} {ts699 : List Obj} {n700 : Int} {n701 : Int} {n702 : Int} {ts703 : List Fun_} {ts704 : List Dat_} {H1 : Int → Int → (List Fun_) → (List Dat_) → (ι → O) → O} (g0 : szL ts699) (g1 : 0 ≤ n700) (g2 : n700 ≤ (((List.length ts699) : Nat) : Int)) (g3 : (((List.length ts699) : Nat) : Int) < n700 + m) (g4 : ∀ i : Int, 0 ≤ i → i < (ts699.length : Int) → objOk (List.getD ts699 (Int.toNat i) ([], ([], ([], ()))))) (g5 : allOk ts699) (g6 : (ts703.length : Int) ≤ 1000 * n700) (g7 : (ts704.length : Int) ≤ 1000 * n700)
    (h1 : ∀ (a0 : Int) (a1 : Int) (a2 : List Fun_) (a3 : List Dat_), n701 = a0 → n702 = a1 → ((a2.length : Int) ≤ 1000 * (ts699.length : Int)) → ((a3.length : Int) ≤ 1000 * (ts699.length : Int)) → T P (H1 a0 a1 a2 a3)),
    T P (fun K => ref24_program_L0 m ts699 n700 n701 n702 ts703 ts704 (fun a0 a1 a2 a3 => H1 a0 a1 a2 a3 K)) := by
  intro m
  induction m with
  | zero => intros; omega
  | succ m ih =>
    intro ts699 n700 n701 n702 ts703 ts704 H1 g0 g1 g2 g3 g4 g5 g6 g7 h1
    rw [ref24_program_L0]
    unfold ref24_program_L0.body
    have z0_n700 := szL_get (i := Int.toNat n700) g0
    obtain ⟨_, _, _, _, _, _⟩ := z0_n700
    have z0 := szL_len g0
    have := wr64 ((n700 + (1 : Int)))
    have := rb
    have hz := szL_get (i := Int.toNat n700) g0
    obtain ⟨_, _, _, _, _, _⟩ := hz
    repeat' first
      | (intro q; try subst q)
      | ((with_reducible refine h1 _ _ _ _ ?_ ?_ ?_ ?_) <;> try (first | exact szL_get (by assumption) | exact g4 _ (by omega) (by omega) | exact g5 _ (by omega) (by omega) | with_reducible rfl | assumption | omega | solve_by_elim [szL_get, szO_f, szO_d, szO_s]))
      | ((with_reducible refine tna ?_ ?_ ?_); omega; omega)
      | ((with_reducible refine tnb ?_ ?_); focus (first | omega | (first | exact szL_get (by assumption) | exact g4 _ (by omega) (by omega) | exact g5 _ (by omega) (by omega) | with_reducible rfl | assumption | omega | solve_by_elim [szL_get, szO_f, szO_d, szO_s])))
      | ((with_reducible refine tn ?_ ?_); assumption)
      | with_reducible refine tct ?_
      | with_reducible refine tcf ?_
      | with_reducible refine tcn ?_
      | with_reducible refine tcd ?_ ?_
      | with_reducible refine tce ?_ ?_
      | with_reducible refine tcne ?_ ?_
      | with_reducible refine tc ?_ ?_
      | ((with_reducible refine ih ?_ ?_ ?_ ?_ ?_ ?_ ?_ ?_ h1) <;> try (first | exact szL_get (by assumption) | exact g4 _ (by omega) (by omega) | exact g5 _ (by omega) (by omega) | with_reducible rfl | assumption | omega | solve_by_elim [szL_get, szO_f, szO_d, szO_s]))
      | ((with_reducible refine ref24_program_L0_L2_c (B := 1000 * n700) ?_ ?_ ?_ ?_ ?_ ?_ ?_ ?_ ?_ ?_) <;> try (first | exact szL_get (by assumption) | exact g4 _ (by omega) (by omega) | exact g5 _ (by omega) (by omega) | with_reducible rfl | assumption | omega | solve_by_elim [szL_get, szO_f, szO_d, szO_s]))
      | ((with_reducible refine ref24_program_L0_L6_c (B := 1000 * n700) ?_ ?_ ?_ ?_ ?_ ?_ ?_ ?_ ?_ ?_) <;> try (first | exact szL_get (by assumption) | exact g4 _ (by omega) (by omega) | exact g5 _ (by omega) (by omega) | with_reducible rfl | assumption | omega | solve_by_elim [szL_get, szO_f, szO_d, szO_s]))

theorem ref24_program_c {ts698 : List Obj} {H1 : Int → (List Fun_) → (List Dat_) → (ι → O) → O} (g0 : szL ts698) (g1 : ∀ i : Int, 0 ≤ i → i < (ts698.length : Int) → objOk (List.getD ts698 (Int.toNat i) ([], ([], ([], ()))))) (g2 : allOk ts698)
    (h1 : ∀ (a0 : Int) (a1 : List Fun_) (a2 : List Dat_), (a1.length ≤ 1000000) → (a2.length ≤ 1000000) → T P (H1 a0 a1 a2)) :
    T P (fun K => ref24_program ts698 (fun a0 a1 a2 => H1 a0 a1 a2 K)) := by
  unfold ref24_program ref24_program.body
  have z0 := szL_len g0
  have := rb
  repeat' first
    | (intro q; try subst q)
    | ((with_reducible refine h1 _ _ _ ?_ ?_) <;> try (first | (simp only [List.length_nil] <;> omega) | with_reducible rfl | assumption | omega | solve_by_elim [szL_get, szO_f, szO_d, szO_s]))
    | ((with_reducible refine tna ?_ ?_ ?_); omega; omega)
    | ((with_reducible refine tnb ?_ ?_); focus (first | omega | (first | (simp only [List.length_nil] <;> omega) | with_reducible rfl | assumption | omega | solve_by_elim [szL_get, szO_f, szO_d, szO_s])))
    | ((with_reducible refine tn ?_ ?_); assumption)
    | with_reducible refine tct ?_
    | with_reducible refine tcf ?_
    | with_reducible refine tcn ?_
    | with_reducible refine tcd ?_ ?_
    | with_reducible refine tce ?_ ?_
    | with_reducible refine tcne ?_ ?_
    | with_reducible refine tc ?_ ?_
    | ((with_reducible refine ref24_program_L0_c ?_ ?_ ?_ ?_ ?_ ?_ ?_ ?_ ?_) <;> try (first | (simp only [List.length_nil] <;> omega) | with_reducible rfl | assumption | omega | solve_by_elim [szL_get, szO_f, szO_d, szO_s]))

theorem ref24_Bind_c {ts : List Obj} {s : ByteArray} {H1 : (List Fun_ × List Dat_ × Int × Unit) → (Int × Int × Int × Unit) → (ι → O) → O} (hL : szL ts) (hs : s.size ≤ 100000) (h1 : ∀ p e, p.1.length ≤ 1000000 → p.2.1.length ≤ 1000000 → T P (H1 p e)) : T P (fun K => ref24_Bind ts s (fun a b => H1 a b K)) := by
  have := rb
  have := szL_len hL
  unfold ref24_Bind ref24_Bind.body
  refine tcn (tce (fun _ => h1 _ _ (by decide) (by decide)) (fun _ => ?_))
  refine tcd (fun _ => h1 _ _ (by decide) (by decide)) (fun _ => ?_)
  refine ref24_Bind_L0_c hL hs (by omega) (by omega) (by omega) (fun i h1 h2 => by omega) (fun a b e1 e2 => h1 a b e1 e2) (fun a0 a1 a2 a3 e0 e1 e2 e3 hob => ?_)
  subst e0 e1 e2 e3
  refine ref23_Check_c hL (fun t ht => tcne (fun _ => h1 _ _ (by decide) (by decide)) (fun h0 => ?_))
  have hall := ht h0
  refine ref23_Find_c hL hs (fun a b c hv => tcn (tcn (tc (fun hc => ?_) (fun _ => h1 _ _ (by decide) (by decide)))))
  obtain ⟨v1, v2, v3, v4⟩ := hv hc
  refine tna (by omega) (by omega) (tna (by omega) (by omega) (tcn (tcne (fun _ => h1 _ _ (by decide) (by decide)) (fun _ => ?_))))
  refine tna (by omega) (by omega) (tna (by omega) (by omega) (tcd (fun _ => h1 _ _ (by decide) (by decide)) (fun _ => ?_)))
  exact ref24_program_c hL hob hall (fun a b c _ _ => ref24_number_c hL (hall _ v1 v2 _ v3 v4) (fun n => h1 _ _ ‹_› ‹_›))

theorem ref25_Few_L0_c : ∀ {m : Nat} {n829 : Int} {t830 : Prog} {H1 : Bool → (ι → O) → O} {H2 : Prog → (ι → O) → O} (g0 : 0 ≤ n829) (g1 : n829 ≤ (((List.length t830.1) : Nat) : Int)) (g2 : (((List.length t830.1) : Nat) : Int) < n829 + m) (g3 : t830.1.length ≤ 1000000) (g4 : ∀ j : Int, 0 ≤ j → j < n829 → ((List.getD t830.1 (Int.toNat j) ((0 : Int), ((0 : Int), ((⟨#[]⟩ : ByteArray), ((0 : Int), ([], ((0 : Int), (false, ((0 : Int), ((0 : Int), ([], ([], ([], ([], ())))))))))))))).2.2.2.2.2.2.2.2.2.2.1.length ≤ 80 ∧ (List.getD t830.1 (Int.toNat j) ((0 : Int), ((0 : Int), ((⟨#[]⟩ : ByteArray), ((0 : Int), ([], ((0 : Int), (false, ((0 : Int), ((0 : Int), ([], ([], ([], ([], ())))))))))))))).2.2.2.2.2.2.2.2.2.2.2.2.1.length ≤ 80 ∧ (List.getD t830.1 (Int.toNat j) ((0 : Int), ((0 : Int), ((⟨#[]⟩ : ByteArray), ((0 : Int), ([], ((0 : Int), (false, ((0 : Int), ((0 : Int), ([], ([], ([], ([], ())))))))))))))).2.2.2.2.1.length ≤ 80 ∧ (List.getD t830.1 (Int.toNat j) ((0 : Int), ((0 : Int), ((⟨#[]⟩ : ByteArray), ((0 : Int), ([], ((0 : Int), (false, ((0 : Int), ((0 : Int), ([], ([], ([], ([], ())))))))))))))).2.2.2.2.2.2.2.2.2.2.2.1.length ≤ 80 ∧ (List.getD t830.1 (Int.toNat j) ((0 : Int), ((0 : Int), ((⟨#[]⟩ : ByteArray), ((0 : Int), ([], ((0 : Int), (false, ((0 : Int), ((0 : Int), ([], ([], ([], ([], ())))))))))))))).2.2.2.2.2.2.2.2.2.1.length ≤ 80))
    (h1 : ∀ (a0 : Bool), (a0 = false) → T P (H1 a0))
    (h2 : ∀ (a0 : Prog), t830 = a0 → (∀ j : Int, 0 ≤ j → j < (t830.1.length : Int) → ((List.getD t830.1 (Int.toNat j) ((0 : Int), ((0 : Int), ((⟨#[]⟩ : ByteArray), ((0 : Int), ([], ((0 : Int), (false, ((0 : Int), ((0 : Int), ([], ([], ([], ([], ())))))))))))))).2.2.2.2.2.2.2.2.2.2.1.length ≤ 80 ∧ (List.getD t830.1 (Int.toNat j) ((0 : Int), ((0 : Int), ((⟨#[]⟩ : ByteArray), ((0 : Int), ([], ((0 : Int), (false, ((0 : Int), ((0 : Int), ([], ([], ([], ([], ())))))))))))))).2.2.2.2.2.2.2.2.2.2.2.2.1.length ≤ 80 ∧ (List.getD t830.1 (Int.toNat j) ((0 : Int), ((0 : Int), ((⟨#[]⟩ : ByteArray), ((0 : Int), ([], ((0 : Int), (false, ((0 : Int), ((0 : Int), ([], ([], ([], ([], ())))))))))))))).2.2.2.2.1.length ≤ 80 ∧ (List.getD t830.1 (Int.toNat j) ((0 : Int), ((0 : Int), ((⟨#[]⟩ : ByteArray), ((0 : Int), ([], ((0 : Int), (false, ((0 : Int), ((0 : Int), ([], ([], ([], ([], ())))))))))))))).2.2.2.2.2.2.2.2.2.2.2.1.length ≤ 80 ∧ (List.getD t830.1 (Int.toNat j) ((0 : Int), ((0 : Int), ((⟨#[]⟩ : ByteArray), ((0 : Int), ([], ((0 : Int), (false, ((0 : Int), ((0 : Int), ([], ([], ([], ([], ())))))))))))))).2.2.2.2.2.2.2.2.2.1.length ≤ 80)) → T P (H2 a0)),
    T P (fun K => ref25_Few_L0 m n829 t830 (fun a0 => H1 a0 K) (fun a0 => H2 a0 K)) := by
  intro m
  induction m with
  | zero => intros; omega
  | succ m ih =>
    intro n829 t830 H1 H2 g0 g1 g2 g3 g4 h1 h2
    rw [ref25_Few_L0]
    unfold ref25_Few_L0.body
    have := wr64 ((n829 + (1 : Int)))
    repeat' first
      | (intro q; try subst q)
      | ((with_reducible refine h1 _ ?_) <;> try (first | exact stepJ (by assumption) (by first | assumption | (refine ⟨?_, ?_, ?_, ?_, ?_⟩ <;> omega) | (refine ⟨?_, ?_, ?_⟩ <;> omega)) (by omega) | (intro j hj1 hj2; exact g4 j hj1 (by omega)) | (intro j hj1 hj2; omega) | with_reducible rfl | assumption | omega | solve_by_elim [szL_get, szO_f, szO_d, szO_s]))
      | ((with_reducible refine h2 _ ?_ ?_) <;> try (first | exact stepJ (by assumption) (by first | assumption | (refine ⟨?_, ?_, ?_, ?_, ?_⟩ <;> omega) | (refine ⟨?_, ?_, ?_⟩ <;> omega)) (by omega) | (intro j hj1 hj2; exact g4 j hj1 (by omega)) | (intro j hj1 hj2; omega) | with_reducible rfl | assumption | omega | solve_by_elim [szL_get, szO_f, szO_d, szO_s]))
      | ((with_reducible refine tna ?_ ?_ ?_); omega; omega)
      | ((with_reducible refine tnb ?_ ?_); focus (first | omega | (first | exact stepJ (by assumption) (by first | assumption | (refine ⟨?_, ?_, ?_, ?_, ?_⟩ <;> omega) | (refine ⟨?_, ?_, ?_⟩ <;> omega)) (by omega) | (intro j hj1 hj2; exact g4 j hj1 (by omega)) | (intro j hj1 hj2; omega) | with_reducible rfl | assumption | omega | solve_by_elim [szL_get, szO_f, szO_d, szO_s])))
      | ((with_reducible refine tn ?_ ?_); assumption)
      | with_reducible refine tct ?_
      | with_reducible refine tcf ?_
      | with_reducible refine tcn ?_
      | with_reducible refine tcd ?_ ?_
      | with_reducible refine tce ?_ ?_
      | with_reducible refine tcne ?_ ?_
      | with_reducible refine tc ?_ ?_
      | ((with_reducible refine ih ?_ ?_ ?_ ?_ ?_ h1 h2) <;> try (first | exact stepJ (by assumption) (by first | assumption | (refine ⟨?_, ?_, ?_, ?_, ?_⟩ <;> omega) | (refine ⟨?_, ?_, ?_⟩ <;> omega)) (by omega) | (intro j hj1 hj2; exact g4 j hj1 (by omega)) | (intro j hj1 hj2; omega) | with_reducible rfl | assumption | omega | solve_by_elim [szL_get, szO_f, szO_d, szO_s]))

theorem ref25_Few_L2_c : ∀ {m : Nat} {n833 : Int} {t834 : Prog} {H1 : Bool → (ι → O) → O} {H2 : Prog → (ι → O) → O} (g0 : 0 ≤ n833) (g1 : n833 ≤ (((List.length t834.2.1) : Nat) : Int)) (g2 : (((List.length t834.2.1) : Nat) : Int) < n833 + m) (g3 : t834.2.1.length ≤ 1000000) (g4 : ∀ j : Int, 0 ≤ j → j < n833 → ((List.getD t834.2.1 (Int.toNat j) ((0 : Int), ((0 : Int), ((⟨#[]⟩ : ByteArray), ((0 : Int), ([], ([], ([], ())))))))).2.2.2.2.1.length ≤ 80 ∧ (List.getD t834.2.1 (Int.toNat j) ((0 : Int), ((0 : Int), ((⟨#[]⟩ : ByteArray), ((0 : Int), ([], ([], ([], ())))))))).2.2.2.2.2.2.1.length ≤ 80 ∧ (List.getD t834.2.1 (Int.toNat j) ((0 : Int), ((0 : Int), ((⟨#[]⟩ : ByteArray), ((0 : Int), ([], ([], ([], ())))))))).2.2.2.2.2.1.length ≤ 80))
    (h1 : ∀ (a0 : Bool), (a0 = false) → T P (H1 a0))
    (h2 : ∀ (a0 : Prog), t834 = a0 → (∀ j : Int, 0 ≤ j → j < (t834.2.1.length : Int) → ((List.getD t834.2.1 (Int.toNat j) ((0 : Int), ((0 : Int), ((⟨#[]⟩ : ByteArray), ((0 : Int), ([], ([], ([], ())))))))).2.2.2.2.1.length ≤ 80 ∧ (List.getD t834.2.1 (Int.toNat j) ((0 : Int), ((0 : Int), ((⟨#[]⟩ : ByteArray), ((0 : Int), ([], ([], ([], ())))))))).2.2.2.2.2.2.1.length ≤ 80 ∧ (List.getD t834.2.1 (Int.toNat j) ((0 : Int), ((0 : Int), ((⟨#[]⟩ : ByteArray), ((0 : Int), ([], ([], ([], ())))))))).2.2.2.2.2.1.length ≤ 80)) → T P (H2 a0)),
    T P (fun K => ref25_Few_L2 m n833 t834 (fun a0 => H1 a0 K) (fun a0 => H2 a0 K)) := by
  intro m
  induction m with
  | zero => intros; omega
  | succ m ih =>
    intro n833 t834 H1 H2 g0 g1 g2 g3 g4 h1 h2
    rw [ref25_Few_L2]
    unfold ref25_Few_L2.body
    have := wr64 ((n833 + (1 : Int)))
    repeat' first
      | (intro q; try subst q)
      | ((with_reducible refine h1 _ ?_) <;> try (first | exact stepJ (by assumption) (by first | assumption | (refine ⟨?_, ?_, ?_, ?_, ?_⟩ <;> omega) | (refine ⟨?_, ?_, ?_⟩ <;> omega)) (by omega) | (intro j hj1 hj2; exact g4 j hj1 (by omega)) | (intro j hj1 hj2; omega) | with_reducible rfl | assumption | omega | solve_by_elim [szL_get, szO_f, szO_d, szO_s]))
      | ((with_reducible refine h2 _ ?_ ?_) <;> try (first | exact stepJ (by assumption) (by first | assumption | (refine ⟨?_, ?_, ?_, ?_, ?_⟩ <;> omega) | (refine ⟨?_, ?_, ?_⟩ <;> omega)) (by omega) | (intro j hj1 hj2; exact g4 j hj1 (by omega)) | (intro j hj1 hj2; omega) | with_reducible rfl | assumption | omega | solve_by_elim [szL_get, szO_f, szO_d, szO_s]))
      | ((with_reducible refine tna ?_ ?_ ?_); omega; omega)
      | ((with_reducible refine tnb ?_ ?_); focus (first | omega | (first | exact stepJ (by assumption) (by first | assumption | (refine ⟨?_, ?_, ?_, ?_, ?_⟩ <;> omega) | (refine ⟨?_, ?_, ?_⟩ <;> omega)) (by omega) | (intro j hj1 hj2; exact g4 j hj1 (by omega)) | (intro j hj1 hj2; omega) | with_reducible rfl | assumption | omega | solve_by_elim [szL_get, szO_f, szO_d, szO_s])))
      | ((with_reducible refine tn ?_ ?_); assumption)
      | with_reducible refine tct ?_
      | with_reducible refine tcf ?_
      | with_reducible refine tcn ?_
      | with_reducible refine tcd ?_ ?_
      | with_reducible refine tce ?_ ?_
      | with_reducible refine tcne ?_ ?_
      | with_reducible refine tc ?_ ?_
      | ((with_reducible refine ih ?_ ?_ ?_ ?_ ?_ h1 h2) <;> try (first | exact stepJ (by assumption) (by first | assumption | (refine ⟨?_, ?_, ?_, ?_, ?_⟩ <;> omega) | (refine ⟨?_, ?_, ?_⟩ <;> omega)) (by omega) | (intro j hj1 hj2; exact g4 j hj1 (by omega)) | (intro j hj1 hj2; omega) | with_reducible rfl | assumption | omega | solve_by_elim [szL_get, szO_f, szO_d, szO_s]))

theorem ref25_Few_c {t828 : Prog} {H1 : Bool → (ι → O) → O} (g0 : t828.1.length ≤ 1000000) (g1 : t828.2.1.length ≤ 1000000)
    (h1 : ∀ (a0 : Bool), (a0 = true → few25 t828) → T P (H1 a0)) :
    T P (fun K => ref25_Few t828 (fun a0 => H1 a0 K)) := by
  unfold ref25_Few ref25_Few.body
  have := rb
  repeat' first
    | (intro q; try subst q)
    | ((with_reducible refine h1 _ ?_) <;> try (first | (intro h; contradiction) | (intro j hj1 hj2; omega) | (intro h; have := of_decide_eq_true h; exact ⟨by omega, by omega, all_of_getD (by assumption), all_of_getD (by assumption)⟩) | with_reducible rfl | assumption | omega | solve_by_elim [szL_get, szO_f, szO_d, szO_s]))
    | ((with_reducible refine tna ?_ ?_ ?_); omega; omega)
    | ((with_reducible refine tnb ?_ ?_); focus (first | omega | (first | (intro h; contradiction) | (intro j hj1 hj2; omega) | (intro h; have := of_decide_eq_true h; exact ⟨by omega, by omega, all_of_getD (by assumption), all_of_getD (by assumption)⟩) | with_reducible rfl | assumption | omega | solve_by_elim [szL_get, szO_f, szO_d, szO_s])))
    | ((with_reducible refine tn ?_ ?_); assumption)
    | with_reducible refine tct ?_
    | with_reducible refine tcf ?_
    | with_reducible refine tcn ?_
    | with_reducible refine tcd ?_ ?_
    | with_reducible refine tce ?_ ?_
    | with_reducible refine tcne ?_ ?_
    | with_reducible refine tc ?_ ?_
    | ((with_reducible refine ref25_Few_L0_c ?_ ?_ ?_ ?_ ?_ ?_ ?_) <;> try (first | (intro h; contradiction) | (intro j hj1 hj2; omega) | (intro h; have := of_decide_eq_true h; exact ⟨by omega, by omega, all_of_getD (by assumption), all_of_getD (by assumption)⟩) | with_reducible rfl | assumption | omega | solve_by_elim [szL_get, szO_f, szO_d, szO_s]))
    | ((with_reducible refine ref25_Few_L2_c ?_ ?_ ?_ ?_ ?_ ?_ ?_) <;> try (first | (intro h; contradiction) | (intro j hj1 hj2; omega) | (intro h; have := of_decide_eq_true h; exact ⟨by omega, by omega, all_of_getD (by assumption), all_of_getD (by assumption)⟩) | with_reducible rfl | assumption | omega | solve_by_elim [szL_get, szO_f, szO_d, szO_s]))

theorem law29_few_c {ts2 : List Obj} {t3 : Plan} {H1 : Prog → Bool → (ι → O) → O} (g0 : okLs ts2)
    (h1 : ∀ (a0 : Prog) (a1 : Bool), (a1 = true → few25 a0) → (a1 = true → t3.1.length ≤ 60 ∧ t3.2.1.length ≤ 60) → T P (H1 a0 a1)) :
    T P (fun K => law29_few ts2 t3 (fun a0 a1 => H1 a0 a1 K)) := by
  unfold law29_few law29_few.body
  repeat' first
    | (intro q; try subst q)
    | ((with_reducible refine h1 _ _ ?_ ?_) <;> try (first | (intro h; contradiction) | decide | (intro _; omega) | with_reducible rfl | assumption | omega | solve_by_elim [szL_get, szO_f, szO_d, szO_s]))
    | ((with_reducible refine tna ?_ ?_ ?_); omega; omega)
    | ((with_reducible refine tnb ?_ ?_); focus (first | omega | (first | (intro h; contradiction) | decide | (intro _; omega) | with_reducible rfl | assumption | omega | solve_by_elim [szL_get, szO_f, szO_d, szO_s])))
    | ((with_reducible refine tn ?_ ?_); assumption)
    | with_reducible refine tct ?_
    | with_reducible refine tcf ?_
    | with_reducible refine tcn ?_
    | with_reducible refine tcd ?_ ?_
    | with_reducible refine tce ?_ ?_
    | with_reducible refine tcne ?_ ?_
    | with_reducible refine tc ?_ ?_
    | ((with_reducible refine ref24_Few_c ?_ ?_) <;> try (first | (intro h; contradiction) | decide | (intro _; omega) | with_reducible rfl | assumption | omega | solve_by_elim [szL_get, szO_f, szO_d, szO_s]))
    | ((with_reducible refine ref24_Bind_c ?_ ?_ ?_) <;> try (first | (intro h; contradiction) | decide | (intro _; omega) | with_reducible rfl | assumption | omega | solve_by_elim [szL_get, szO_f, szO_d, szO_s]))
    | ((with_reducible refine ref25_Few_c ?_ ?_ ?_) <;> try (first | (intro h; contradiction) | decide | (intro _; omega) | with_reducible rfl | assumption | omega | solve_by_elim [szL_get, szO_f, szO_d, szO_s]))

theorem place_laid_c {n845 : Int} {n846 : Int} {t847 : Prog} {t848 : Plan} {H1 : Prog → Plan → Int → Int → (ι → O) → O} 
    (h1 : ∀ (a0 : Prog) (a1 : Plan) (a2 : Int) (a3 : Int), t847 = a0 → t848 = a1 → n846 = a2 → n845 = a3 → T P (H1 a0 a1 a2 a3)) :
    T P (fun K => place_laid n845 n846 t847 t848 (fun a0 a1 a2 a3 => H1 a0 a1 a2 a3 K)) := by
  unfold place_laid place_laid.body
  repeat' first
    | (intro q; try subst q)
    | ((with_reducible refine h1 _ _ _ _ ?_ ?_ ?_ ?_) <;> try (first | with_reducible rfl | assumption | omega | solve_by_elim [szL_get, szO_f, szO_d, szO_s]))
    | ((with_reducible refine tna ?_ ?_ ?_); omega; omega)
    | ((with_reducible refine tnb ?_ ?_); focus (first | omega | (first | with_reducible rfl | assumption | omega | solve_by_elim [szL_get, szO_f, szO_d, szO_s])))
    | ((with_reducible refine tn ?_ ?_); assumption)
    | with_reducible refine tct ?_
    | with_reducible refine tcf ?_
    | with_reducible refine tcn ?_
    | with_reducible refine tcd ?_ ?_
    | with_reducible refine tce ?_ ?_
    | with_reducible refine tcne ?_ ?_
    | with_reducible refine tc ?_ ?_

theorem place_funs_c {t843 : Prog} {t844 : Plan} {H1 : Int → Int → Prog → Plan → (ι → O) → O} 
    (h1 : ∀ (a0 : Int) (a1 : Int) (a2 : Prog) (a3 : Plan), t843 = a2 → t844 = a3 → (a0 = (t843.1.length : Int)) → (a1 = 2) → T P (H1 a0 a1 a2 a3)) :
    T P (fun K => place_funs t843 t844 (fun a0 a1 a2 a3 => H1 a0 a1 a2 a3 K)) := by
  unfold place_funs place_funs.body
  repeat' first
    | (intro q; try subst q)
    | ((with_reducible refine h1 _ _ _ _ ?_ ?_ ?_ ?_) <;> try (first | with_reducible rfl | assumption | omega | solve_by_elim [szL_get, szO_f, szO_d, szO_s]))
    | ((with_reducible refine tna ?_ ?_ ?_); omega; omega)
    | ((with_reducible refine tnb ?_ ?_); focus (first | omega | (first | with_reducible rfl | assumption | omega | solve_by_elim [szL_get, szO_f, szO_d, szO_s])))
    | ((with_reducible refine tn ?_ ?_); assumption)
    | with_reducible refine tct ?_
    | with_reducible refine tcf ?_
    | with_reducible refine tcn ?_
    | with_reducible refine tcd ?_ ?_
    | with_reducible refine tce ?_ ?_
    | with_reducible refine tcne ?_ ?_
    | with_reducible refine tc ?_ ?_
    | ((with_reducible refine place_laid_c ?_))

theorem prologue_has_c {bs : List Bool} {i : Int} {H1 : Bool → (ι → O) → O} (h1 : ∀ b, (0 ≤ i → b = List.getD bs (Int.toNat i) false) → (i < 0 → b = false) → T P (H1 b)) : T P (fun K => prologue_has bs i (fun a => H1 a K)) := by
  unfold prologue_has prologue_has.body
  refine tcd (fun h => tcd (fun h2 => tna (by omega) (by omega) (h1 _ (fun _ => rfl) (fun h => by omega))) (fun h2 => h1 _ (fun _ => (getD_ge (by omega)).symm) (fun _ => rfl))) (fun h => h1 _ (fun h => by omega) (fun _ => rfl))
theorem has_nn {bs : List Bool} {i : Int} {H1 : Bool → (ι → O) → O} (h : 0 ≤ i) (h1 : T P (H1 (List.getD bs (Int.toNat i) false))) : T P (fun K => prologue_has bs i (fun a => H1 a K)) := prologue_has_c (fun b e _ => by rw [e h]; exact h1)

theorem prologue_Size_c {p : Prog} {plan : Plan} {i : Int} {H1 : Int → (ι → O) → O} (h1 : ∀ n, n = sizeV p plan i → T P (H1 n)) : T P (fun K => prologue_Size p plan i (fun a => H1 a K)) := by
  unfold prologue_Size prologue_Size.body
  refine tcn (tcd (fun h => h1 _ (by unfold sizeV; rw [if_neg (by omega)])) (fun h => prologue_has_c (fun b e1 e2 => tcn (tc (fun hb => ?_) (fun hb => ?_)))))
  · have h0 : 0 ≤ i := by
      by_cases h0 : 0 ≤ i
      · exact h0
      · rw [e2 (by omega)] at hb; cases hb
    rw [e1 h0] at hb
    refine tna (by omega) (by omega) (tcd (fun h2 => tna (by omega) (by omega) (tcne (fun h3 => h1 _ ?_) (fun h3 => h1 _ ?_))) (fun h2 => h1 _ ?_))
    · unfold sizeV; rw [if_pos ⟨h0, by omega, hb⟩, if_pos h3]
    · unfold sizeV; rw [if_pos ⟨h0, by omega, hb⟩, if_neg (fun h => h h3)]
    · unfold sizeV; rw [if_pos ⟨h0, by omega, hb⟩, if_neg (fun h => h (getD_ge (by omega)))]
  · refine h1 _ ?_
    unfold sizeV
    rw [if_neg (fun h => ?_)]
    rw [e1 h.1, h.2.2] at hb
    cases hb

theorem place_funsfn1_c {n868 : Int} {t869 : Prog} {t870 : Plan} {H1 : Int → Prog → Plan → (ι → O) → O} 
    (h1 : ∀ (a0 : Int) (a1 : Prog) (a2 : Plan), t869 = a1 → t870 = a2 → (a0 = sizeV t869 t870 n868) → T P (H1 a0 a1 a2)) :
    T P (fun K => place_funsfn1 n868 t869 t870 (fun a0 a1 a2 => H1 a0 a1 a2 K)) := by
  unfold place_funsfn1 place_funsfn1.body
  repeat' first
    | (intro q; try subst q)
    | ((with_reducible refine h1 _ _ _ ?_ ?_ ?_) <;> try (first | with_reducible rfl | assumption | omega | solve_by_elim [szL_get, szO_f, szO_d, szO_s]))
    | ((with_reducible refine tna ?_ ?_ ?_); omega; omega)
    | ((with_reducible refine tnb ?_ ?_); focus (first | omega | (first | with_reducible rfl | assumption | omega | solve_by_elim [szL_get, szO_f, szO_d, szO_s])))
    | ((with_reducible refine tn ?_ ?_); assumption)
    | with_reducible refine tct ?_
    | with_reducible refine tcf ?_
    | with_reducible refine tcn ?_
    | with_reducible refine tcd ?_ ?_
    | with_reducible refine tce ?_ ?_
    | with_reducible refine tcne ?_ ?_
    | with_reducible refine tc ?_ ?_
    | ((with_reducible refine prologue_Size_c ?_))

theorem place_Starts_round0_c {n881 : Int} {t882 : Line} {ns883 : List Int} {H1 : Bool → (List Int) → (ι → O) → O} (g0 : ns883.length ≤ 1000000)
    (h1 : ∀ (a0 : Bool) (a1 : List Int), (a0 = true) → (a1 = ns883 ++ [if t882.1 = t882.2.1 then -1 else t882.1]) → T P (H1 a0 a1)) :
    T P (fun K => place_Starts_round0 n881 t882 ns883 (fun a0 a1 => H1 a0 a1 K)) := by
  unfold place_Starts_round0 place_Starts_round0.body
  repeat' first
    | (intro q; try subst q)
    | ((with_reducible refine h1 _ _ ?_ ?_) <;> try (first | (rw [if_pos (by assumption)]) | (rw [if_neg (by assumption)]) | (simp only [List.length_cons, List.length_nil] <;> omega) | with_reducible rfl | assumption | omega | solve_by_elim [szL_get, szO_f, szO_d, szO_s]))
    | ((with_reducible refine tna ?_ ?_ ?_); omega; omega)
    | ((with_reducible refine tnb ?_ ?_); focus (first | omega | (first | (rw [if_pos (by assumption)]) | (rw [if_neg (by assumption)]) | (simp only [List.length_cons, List.length_nil] <;> omega) | with_reducible rfl | assumption | omega | solve_by_elim [szL_get, szO_f, szO_d, szO_s])))
    | ((with_reducible refine tn ?_ ?_); assumption)
    | with_reducible refine tct ?_
    | with_reducible refine tcf ?_
    | with_reducible refine tcn ?_
    | with_reducible refine tcd ?_ ?_
    | with_reducible refine tce ?_ ?_
    | with_reducible refine tcne ?_ ?_
    | with_reducible refine tc ?_ ?_

theorem ref28_Kept_c {p : Prog} {plan : Plan} {i : Int} {H1 : Bool → (ι → O) → O} (h1 : ∀ b, (b = true ↔ 0 ≤ i ∧ i < (p.1.length : Int) ∧ plan.1.getD i.toNat false = true) → T P (H1 b)) : T P (fun K => ref28_Kept p plan i (fun a => H1 a K)) := by
  unfold ref28_Kept ref28_Kept.body
  refine tcd (fun h => tcd (fun h2 => tcd (fun h3 => tna (by omega) (by omega) (h1 _ ⟨fun h4 => ⟨h, h2, h4⟩, fun h4 => h4.2.2⟩)) (fun h3 => h1 _ ⟨fun h4 => (nomatch h4), fun h4 => ?_⟩)) (fun h2 => h1 _ ⟨fun h4 => (nomatch h4), fun h4 => by omega⟩)) (fun h2 => h1 _ ⟨fun h4 => (nomatch h4), fun h4 => by omega⟩)
  have := h4.2.2
  rw [getD_ge (by omega)] at this
  exact this

theorem ref28_Check_c {plan : Plan} {i : Int} {H1 : Int → (ι → O) → O} (h0 : 0 ≤ i) (h1 : T P (H1 (plan.2.1.getD i.toNat 0))) : T P (fun K => ref28_Check plan i (fun a => H1 a K)) := by
  unfold ref28_Check ref28_Check.body
  refine tcn (tcd (fun h => by omega) (fun h => tcd (fun h2 => ?_) (fun h2 => tna (by omega) (by omega) h1)))
  rw [getD_ge (by omega)] at h1
  exact h1

theorem ref28_Size_c {p : Prog} {plan : Plan} {i : Int} {H1 : Int → (ι → O) → O} (h1 : ∀ n, n = sizeV p plan i → T P (H1 n)) : T P (fun K => ref28_Size p plan i (fun a => H1 a K)) := by
  unfold ref28_Size ref28_Size.body
  refine ref28_Kept_c (fun b e => tcn (tc (fun hb => ?_) (fun hb => h1 _ ?_)))
  · have hk := e.1 hb
    refine tna (by omega) (by omega) (ref28_Check_c hk.1 (tcne (fun h3 => h1 _ ?_) (fun h3 => h1 _ ?_)))
    · unfold sizeV; rw [if_pos hk, if_pos h3]
    · unfold sizeV; rw [if_pos hk, if_neg (fun h => h h3)]
  · unfold sizeV
    rw [if_neg (fun h => ?_)]
    rw [e.2 h] at hb
    cases hb

theorem ref29_start_L0_c : ∀ {m : Nat} {n915 : Int} {n916 : Int} {n917 : Int} {t918 : Prog} {t919 : Plan} {H1 : Int → (ι → O) → O} (g0 : 0 ≤ n917) (g1 : n917 ≤ n915) (g2 : n915 ≤ 1000000) (g3 : n915 < n917 + m) (g4 : few25 t918) (g5 : n915 ≤ (t918.1.length : Int)) (g6 : n916 = startV t918 t919 (Int.toNat n917))
    (h1 : ∀ (a0 : Int), (a0 = startV t918 t919 (Int.toNat n915)) → T P (H1 a0)),
    T P (fun K => ref29_start_L0 m n915 n916 n917 t918 t919 (fun a0 => H1 a0 K)) := by
  intro m
  induction m with
  | zero => intros; omega
  | succ m ih =>
    intro n915 n916 n917 t918 t919 H1 g0 g1 g2 g3 g4 g5 g6 h1
    rw [ref29_start_L0]
    unfold ref29_start_L0.body
    have := wr64 ((n917 + (1 : Int)))
    have := g4.1
    repeat' first
      | (intro q; try subst q)
      | ((with_reducible refine h1 _ ?_) <;> try (first | exact start_next (by assumption) (by assumption) (by omega) (by omega) | exact mapR_nil | contradiction | (simp only [List.length_append, List.length_cons, List.length_nil] <;> omega) | (rw [show n915 = n917 from by omega]; assumption) | with_reducible rfl | assumption | omega | solve_by_elim [szL_get, szO_f, szO_d, szO_s]))
      | ((with_reducible refine tna ?_ ?_ ?_); omega; omega)
      | ((with_reducible refine tnb ?_ ?_); focus (first | omega | (first | exact start_next (by assumption) (by assumption) (by omega) (by omega) | exact mapR_nil | contradiction | (simp only [List.length_append, List.length_cons, List.length_nil] <;> omega) | (rw [show n915 = n917 from by omega]; assumption) | with_reducible rfl | assumption | omega | solve_by_elim [szL_get, szO_f, szO_d, szO_s])))
      | ((with_reducible refine tn ?_ ?_); assumption)
      | with_reducible refine tct ?_
      | with_reducible refine tcf ?_
      | with_reducible refine tcn ?_
      | with_reducible refine tcd ?_ ?_
      | with_reducible refine tce ?_ ?_
      | with_reducible refine tcne ?_ ?_
      | with_reducible refine tc ?_ ?_
      | ((with_reducible refine ih ?_ ?_ ?_ ?_ ?_ ?_ ?_ h1) <;> try (first | exact start_next (by assumption) (by assumption) (by omega) (by omega) | exact mapR_nil | contradiction | (simp only [List.length_append, List.length_cons, List.length_nil] <;> omega) | (rw [show n915 = n917 from by omega]; assumption) | with_reducible rfl | assumption | omega | solve_by_elim [szL_get, szO_f, szO_d, szO_s]))
      | ((with_reducible refine ref28_Size_c ?_))

theorem ref29_start_c {t912 : Prog} {t913 : Plan} {n914 : Int} {H1 : Int → (ι → O) → O} (g0 : few25 t912) (g1 : 0 ≤ n914) (g2 : n914 ≤ (t912.1.length : Int))
    (h1 : ∀ (a0 : Int), (a0 = startV t912 t913 (Int.toNat n914)) → T P (H1 a0)) :
    T P (fun K => ref29_start t912 t913 n914 (fun a0 => H1 a0 K)) := by
  unfold ref29_start ref29_start.body
  have := rb
  have := g0.1
  repeat' first
    | (intro q; try subst q)
    | ((with_reducible refine h1 _ ?_) <;> try (first | with_reducible rfl | assumption | omega | solve_by_elim [szL_get, szO_f, szO_d, szO_s]))
    | ((with_reducible refine tna ?_ ?_ ?_); omega; omega)
    | ((with_reducible refine tnb ?_ ?_); focus (first | omega | (first | with_reducible rfl | assumption | omega | solve_by_elim [szL_get, szO_f, szO_d, szO_s])))
    | ((with_reducible refine tn ?_ ?_); assumption)
    | with_reducible refine tct ?_
    | with_reducible refine tcf ?_
    | with_reducible refine tcn ?_
    | with_reducible refine tcd ?_ ?_
    | with_reducible refine tce ?_ ?_
    | with_reducible refine tcne ?_ ?_
    | with_reducible refine tc ?_ ?_
    | ((with_reducible refine ref29_start_L0_c ?_ ?_ ?_ ?_ ?_ ?_ ?_ ?_) <;> try (first | with_reducible rfl | assumption | omega | solve_by_elim [szL_get, szO_f, szO_d, szO_s]))

theorem ref29_Starts_L0_c : ∀ {m : Nat} {n904 : Int} {t905 : Prog} {t906 : Plan} {ns907 : List Int} {H1 : (List Int) → (ι → O) → O} (g0 : 0 ≤ n904) (g1 : n904 ≤ (((List.length t905.1) : Nat) : Int)) (g2 : (((List.length t905.1) : Nat) : Int) < n904 + m) (g3 : few25 t905) (g4 : ns907 = mapR (stV t905 t906) n904) (g5 : (ns907.length : Int) = n904)
    (h1 : ∀ (a0 : List Int), (a0 = mapR (stV t905 t906) (t905.1.length : Int)) → T P (H1 a0)),
    T P (fun K => ref29_Starts_L0 m n904 t905 t906 ns907 (fun a0 => H1 a0 K)) := by
  intro m
  induction m with
  | zero => intros; omega
  | succ m ih =>
    intro n904 t905 t906 ns907 H1 g0 g1 g2 g3 g4 g5 h1
    rw [ref29_Starts_L0]
    unfold ref29_Starts_L0.body
    have := wr64 ((n904 + (1 : Int)))
    have := g3.1
    repeat' first
      | (intro q; try subst q)
      | ((with_reducible refine h1 _ ?_) <;> try (first | exact st_y (by assumption) (by assumption) (by assumption) (by omega) (by omega) | exact st_n (by assumption) (by assumption) (by assumption) (by omega) (by omega) | exact mapR_nil | contradiction | (simp only [List.length_append, List.length_cons, List.length_nil] <;> omega) | (rw [show (t905.1.length : Int) = n904 from by omega]; assumption) | with_reducible rfl | assumption | omega | solve_by_elim [szL_get, szO_f, szO_d, szO_s]))
      | ((with_reducible refine tna ?_ ?_ ?_); omega; omega)
      | ((with_reducible refine tnb ?_ ?_); focus (first | omega | (first | exact st_y (by assumption) (by assumption) (by assumption) (by omega) (by omega) | exact st_n (by assumption) (by assumption) (by assumption) (by omega) (by omega) | exact mapR_nil | contradiction | (simp only [List.length_append, List.length_cons, List.length_nil] <;> omega) | (rw [show (t905.1.length : Int) = n904 from by omega]; assumption) | with_reducible rfl | assumption | omega | solve_by_elim [szL_get, szO_f, szO_d, szO_s])))
      | ((with_reducible refine tn ?_ ?_); assumption)
      | with_reducible refine tct ?_
      | with_reducible refine tcf ?_
      | with_reducible refine tcn ?_
      | with_reducible refine tcd ?_ ?_
      | with_reducible refine tce ?_ ?_
      | with_reducible refine tcne ?_ ?_
      | with_reducible refine tc ?_ ?_
      | ((with_reducible refine ih ?_ ?_ ?_ ?_ ?_ ?_ h1) <;> try (first | exact st_y (by assumption) (by assumption) (by assumption) (by omega) (by omega) | exact st_n (by assumption) (by assumption) (by assumption) (by omega) (by omega) | exact mapR_nil | contradiction | (simp only [List.length_append, List.length_cons, List.length_nil] <;> omega) | (rw [show (t905.1.length : Int) = n904 from by omega]; assumption) | with_reducible rfl | assumption | omega | solve_by_elim [szL_get, szO_f, szO_d, szO_s]))
      | ((with_reducible refine ref28_Kept_c ?_))
      | ((with_reducible refine ref29_start_c ?_ ?_ ?_ ?_) <;> try (first | exact st_y (by assumption) (by assumption) (by assumption) (by omega) (by omega) | exact st_n (by assumption) (by assumption) (by assumption) (by omega) (by omega) | exact mapR_nil | contradiction | (simp only [List.length_append, List.length_cons, List.length_nil] <;> omega) | (rw [show (t905.1.length : Int) = n904 from by omega]; assumption) | with_reducible rfl | assumption | omega | solve_by_elim [szL_get, szO_f, szO_d, szO_s]))

theorem ref29_Starts_c {t902 : Prog} {t903 : Plan} {H1 : (List Int) → (ι → O) → O} (g0 : few25 t902)
    (h1 : ∀ (a0 : List Int), (a0 = mapR (stV t902 t903) (t902.1.length : Int)) → T P (H1 a0)) :
    T P (fun K => ref29_Starts t902 t903 (fun a0 => H1 a0 K)) := by
  unfold ref29_Starts ref29_Starts.body
  have := rb
  have := g0.1
  repeat' first
    | (intro q; try subst q)
    | ((with_reducible refine h1 _ ?_) <;> try (first | exact mapR_nil | exact List.length_nil ▸ rfl | with_reducible rfl | assumption | omega | solve_by_elim [szL_get, szO_f, szO_d, szO_s]))
    | ((with_reducible refine tna ?_ ?_ ?_); omega; omega)
    | ((with_reducible refine tnb ?_ ?_); focus (first | omega | (first | exact mapR_nil | exact List.length_nil ▸ rfl | with_reducible rfl | assumption | omega | solve_by_elim [szL_get, szO_f, szO_d, szO_s])))
    | ((with_reducible refine tn ?_ ?_); assumption)
    | with_reducible refine tct ?_
    | with_reducible refine tcf ?_
    | with_reducible refine tcn ?_
    | with_reducible refine tcd ?_ ?_
    | with_reducible refine tce ?_ ?_
    | with_reducible refine tcne ?_ ?_
    | with_reducible refine tc ?_ ?_
    | ((with_reducible refine ref29_Starts_L0_c ?_ ?_ ?_ ?_ ?_ ?_ ?_) <;> try (first | exact mapR_nil | exact List.length_nil ▸ rfl | with_reducible rfl | assumption | omega | solve_by_elim [szL_get, szO_f, szO_d, szO_s]))

theorem ref01_Ints_L0_c : ∀ {m : Nat} {ns934 : List Int} {ns935 : List Int} {n936 : Int} {H1 : Bool → (ι → O) → O} {H2 : (ι → O) → O} (g0 : 0 ≤ n936) (g1 : n936 ≤ (((List.length ns934) : Nat) : Int)) (g2 : (((List.length ns934) : Nat) : Int) < n936 + m) (g3 : ns934.length ≤ 1000000) (g4 : ns934 = ns935)
    (h1 : ∀ (a0 : Bool), (False) → T P (H1 a0))
    (h2 : T P H2),
    T P (fun K => ref01_Ints_L0 m ns934 ns935 n936 (fun a0 => H1 a0 K) (H2 K)) := by
  intro m
  induction m with
  | zero => intros; omega
  | succ m ih =>
    intro ns934 ns935 n936 H1 H2 g0 g1 g2 g3 g4 h1 h2
    rw [ref01_Ints_L0]
    unfold ref01_Ints_L0.body
    have := wr64 ((n936 + (1 : Int)))
    subst g4
    repeat' first
      | (intro q; try subst q)
      | ((with_reducible refine h1 _ ?_) <;> try (first | contradiction | (exact absurd rfl (by assumption)) | with_reducible rfl | assumption | omega | solve_by_elim [szL_get, szO_f, szO_d, szO_s]))
      | ((with_reducible refine h2))
      | ((with_reducible refine tna ?_ ?_ ?_); omega; omega)
      | ((with_reducible refine tnb ?_ ?_); focus (first | omega | (first | contradiction | (exact absurd rfl (by assumption)) | with_reducible rfl | assumption | omega | solve_by_elim [szL_get, szO_f, szO_d, szO_s])))
      | ((with_reducible refine tn ?_ ?_); assumption)
      | with_reducible refine tct ?_
      | with_reducible refine tcf ?_
      | with_reducible refine tcn ?_
      | with_reducible refine tcd ?_ ?_
      | with_reducible refine tce ?_ ?_
      | with_reducible refine tcne ?_ ?_
      | with_reducible refine tc ?_ ?_
      | ((with_reducible refine ih ?_ ?_ ?_ ?_ ?_ h1 h2) <;> try (first | contradiction | (exact absurd rfl (by assumption)) | with_reducible rfl | assumption | omega | solve_by_elim [szL_get, szO_f, szO_d, szO_s]))

theorem ref01_Ints_c {ns932 : List Int} {ns933 : List Int} {H1 : Bool → (ι → O) → O} (g0 : ns932.length ≤ 1000000) (g1 : ns932 = ns933)
    (h1 : ∀ (a0 : Bool), (a0 = true) → T P (H1 a0)) :
    T P (fun K => ref01_Ints ns932 ns933 (fun a0 => H1 a0 K)) := by
  unfold ref01_Ints ref01_Ints.body
  have := rb
  subst g1
  repeat' first
    | (intro q; try subst q)
    | ((with_reducible refine h1 _ ?_) <;> try (first | contradiction | (exact absurd rfl (by assumption)) | with_reducible rfl | assumption | omega | solve_by_elim [szL_get, szO_f, szO_d, szO_s]))
    | ((with_reducible refine tna ?_ ?_ ?_); omega; omega)
    | ((with_reducible refine tnb ?_ ?_); focus (first | omega | (first | contradiction | (exact absurd rfl (by assumption)) | with_reducible rfl | assumption | omega | solve_by_elim [szL_get, szO_f, szO_d, szO_s])))
    | ((with_reducible refine tn ?_ ?_); assumption)
    | with_reducible refine tct ?_
    | with_reducible refine tcf ?_
    | with_reducible refine tcn ?_
    | with_reducible refine tcd ?_ ?_
    | with_reducible refine tce ?_ ?_
    | with_reducible refine tcne ?_ ?_
    | with_reducible refine tc ?_ ?_
    | ((with_reducible refine ref01_Ints_L0_c ?_ ?_ ?_ ?_ ?_ ?_ ?_) <;> try (first | contradiction | (exact absurd rfl (by assumption)) | with_reducible rfl | assumption | omega | solve_by_elim [szL_get, szO_f, szO_d, szO_s]))

theorem place_Code_round0_c {n960 : Int} {t961 : Line} {n962 : Int} {H1 : Bool → Int → (ι → O) → O} 
    (h1 : ∀ (a0 : Bool) (a1 : Int), (a0 = true) → (a1 = t961.2.1) → T P (H1 a0 a1)) :
    T P (fun K => place_Code_round0 n960 t961 n962 (fun a0 a1 => H1 a0 a1 K)) := by
  unfold place_Code_round0 place_Code_round0.body
  repeat' first
    | (intro q; try subst q)
    | ((with_reducible refine h1 _ _ ?_ ?_) <;> try (first | with_reducible rfl | assumption | omega | solve_by_elim [szL_get, szO_f, szO_d, szO_s]))
    | ((with_reducible refine tna ?_ ?_ ?_); omega; omega)
    | ((with_reducible refine tnb ?_ ?_); focus (first | omega | (first | with_reducible rfl | assumption | omega | solve_by_elim [szL_get, szO_f, szO_d, szO_s])))
    | ((with_reducible refine tn ?_ ?_); assumption)
    | with_reducible refine tct ?_
    | with_reducible refine tcf ?_
    | with_reducible refine tcn ?_
    | with_reducible refine tcd ?_ ?_
    | with_reducible refine tce ?_ ?_
    | with_reducible refine tcne ?_ ?_
    | with_reducible refine tc ?_ ?_

theorem ref29_Code_c {t981 : Prog} {t982 : Plan} {H1 : Int → (ι → O) → O} (g0 : few25 t981)
    (h1 : ∀ (a0 : Int), (a0 = startV t981 t982 t981.1.length) → T P (H1 a0)) :
    T P (fun K => ref29_Code t981 t982 (fun a0 => H1 a0 K)) := by
  unfold ref29_Code ref29_Code.body
  have := g0.1
  repeat' first
    | (intro q; try subst q)
    | ((with_reducible refine h1 _ ?_) <;> try (first | (simp only [Int.toNat_natCast] at *; assumption) | with_reducible rfl | assumption | omega | solve_by_elim [szL_get, szO_f, szO_d, szO_s]))
    | ((with_reducible refine tna ?_ ?_ ?_); omega; omega)
    | ((with_reducible refine tnb ?_ ?_); focus (first | omega | (first | (simp only [Int.toNat_natCast] at *; assumption) | with_reducible rfl | assumption | omega | solve_by_elim [szL_get, szO_f, szO_d, szO_s])))
    | ((with_reducible refine tn ?_ ?_); assumption)
    | with_reducible refine tct ?_
    | with_reducible refine tcf ?_
    | with_reducible refine tcn ?_
    | with_reducible refine tcd ?_ ?_
    | with_reducible refine tce ?_ ?_
    | with_reducible refine tcne ?_ ?_
    | with_reducible refine tc ?_ ?_
    | ((with_reducible refine ref29_start_c ?_ ?_ ?_ ?_) <;> try (first | (simp only [Int.toNat_natCast] at *; assumption) | with_reducible rfl | assumption | omega | solve_by_elim [szL_get, szO_f, szO_d, szO_s]))

theorem place_laidv1_c {n987 : Int} {n988 : Int} {t989 : Prog} {H1 : Prog → Int → Int → (ι → O) → O} 
    (h1 : ∀ (a0 : Prog) (a1 : Int) (a2 : Int), t989 = a0 → n988 = a1 → n987 = a2 → T P (H1 a0 a1 a2)) :
    T P (fun K => place_laidv1 n987 n988 t989 (fun a0 a1 a2 => H1 a0 a1 a2 K)) := by
  unfold place_laidv1 place_laidv1.body
  repeat' first
    | (intro q; try subst q)
    | ((with_reducible refine h1 _ _ _ ?_ ?_ ?_) <;> try (first | with_reducible rfl | assumption | omega | solve_by_elim [szL_get, szO_f, szO_d, szO_s]))
    | ((with_reducible refine tna ?_ ?_ ?_); omega; omega)
    | ((with_reducible refine tnb ?_ ?_); focus (first | omega | (first | with_reducible rfl | assumption | omega | solve_by_elim [szL_get, szO_f, szO_d, szO_s])))
    | ((with_reducible refine tn ?_ ?_); assumption)
    | with_reducible refine tct ?_
    | with_reducible refine tcf ?_
    | with_reducible refine tcn ?_
    | with_reducible refine tcd ?_ ?_
    | with_reducible refine tce ?_ ?_
    | with_reducible refine tcne ?_ ?_
    | with_reducible refine tc ?_ ?_

theorem place_dats_c {t986 : Prog} {H1 : Int → Int → Prog → (ι → O) → O} 
    (h1 : ∀ (a0 : Int) (a1 : Int) (a2 : Prog), t986 = a2 → (a0 = (t986.2.1.length : Int)) → (a1 = 0) → T P (H1 a0 a1 a2)) :
    T P (fun K => place_dats t986 (fun a0 a1 a2 => H1 a0 a1 a2 K)) := by
  unfold place_dats place_dats.body
  repeat' first
    | (intro q; try subst q)
    | ((with_reducible refine h1 _ _ _ ?_ ?_ ?_) <;> try (first | with_reducible rfl | assumption | omega | solve_by_elim [szL_get, szO_f, szO_d, szO_s]))
    | ((with_reducible refine tna ?_ ?_ ?_); omega; omega)
    | ((with_reducible refine tnb ?_ ?_); focus (first | omega | (first | with_reducible rfl | assumption | omega | solve_by_elim [szL_get, szO_f, szO_d, szO_s])))
    | ((with_reducible refine tn ?_ ?_); assumption)
    | with_reducible refine tct ?_
    | with_reducible refine tcf ?_
    | with_reducible refine tcn ?_
    | with_reducible refine tcd ?_ ?_
    | with_reducible refine tce ?_ ?_
    | with_reducible refine tcne ?_ ?_
    | with_reducible refine tc ?_ ?_
    | ((with_reducible refine place_laidv1_c ?_))

theorem place_datsfn1_c {n1005 : Int} {t1006 : Prog} {H1 : Int → Prog → (ι → O) → O} (g0 : few25 t1006) (g1 : 0 ≤ n1005) (g2 : n1005 < (t1006.2.1.length : Int))
    (h1 : ∀ (a0 : Int) (a1 : Prog), t1006 = a1 → (a0 = wordsV t1006 n1005) → T P (H1 a0 a1)) :
    T P (fun K => place_datsfn1 n1005 t1006 (fun a0 a1 => H1 a0 a1 K)) := by
  unfold place_datsfn1 place_datsfn1.body
  have := wr64 (((1 : Int) + (((List.length (List.getD t1006.2.1 (Int.toNat n1005) ((0 : Int), ((0 : Int), ((⟨#[]⟩ : ByteArray), ((0 : Int), ([], ([], ([], ())))))))).2.2.2.2.1) : Nat) : Int)))
  repeat' first
    | (intro q; try subst q)
    | ((with_reducible refine h1 _ _ ?_ ?_) <;> try (first | exact wordsV_w (by assumption) | with_reducible rfl | assumption | omega | solve_by_elim [szL_get, szO_f, szO_d, szO_s]))
    | ((with_reducible refine tna ?_ ?_ ?_); omega; omega)
    | ((with_reducible refine tnb ?_ ?_); focus (first | omega | (first | exact wordsV_w (by assumption) | with_reducible rfl | assumption | omega | solve_by_elim [szL_get, szO_f, szO_d, szO_s])))
    | ((with_reducible refine tn ?_ ?_); assumption)
    | with_reducible refine tct ?_
    | with_reducible refine tcf ?_
    | with_reducible refine tcn ?_
    | with_reducible refine tcd ?_ ?_
    | with_reducible refine tce ?_ ?_
    | with_reducible refine tcne ?_ ?_
    | with_reducible refine tc ?_ ?_

theorem place_Addrs_round0_c {n1009 : Int} {t1010 : Line} {ns1011 : List Int} {H1 : Bool → (List Int) → (ι → O) → O} (g0 : ns1011.length ≤ 1000000)
    (h1 : ∀ (a0 : Bool) (a1 : List Int), (a0 = true) → (a1 = ns1011 ++ [t1010.1]) → T P (H1 a0 a1)) :
    T P (fun K => place_Addrs_round0 n1009 t1010 ns1011 (fun a0 a1 => H1 a0 a1 K)) := by
  unfold place_Addrs_round0 place_Addrs_round0.body
  repeat' first
    | (intro q; try subst q)
    | ((with_reducible refine h1 _ _ ?_ ?_) <;> try (first | (simp only [List.length_cons, List.length_nil] <;> omega) | with_reducible rfl | assumption | omega | solve_by_elim [szL_get, szO_f, szO_d, szO_s]))
    | ((with_reducible refine tna ?_ ?_ ?_); omega; omega)
    | ((with_reducible refine tnb ?_ ?_); focus (first | omega | (first | (simp only [List.length_cons, List.length_nil] <;> omega) | with_reducible rfl | assumption | omega | solve_by_elim [szL_get, szO_f, szO_d, szO_s])))
    | ((with_reducible refine tn ?_ ?_); assumption)
    | with_reducible refine tct ?_
    | with_reducible refine tcf ?_
    | with_reducible refine tcn ?_
    | with_reducible refine tcd ?_ ?_
    | with_reducible refine tce ?_ ?_
    | with_reducible refine tcne ?_ ?_
    | with_reducible refine tc ?_ ?_

theorem ref29_addr_L0_c : ∀ {m : Nat} {n1033 : Int} {n1034 : Int} {n1035 : Int} {t1036 : Prog} {H1 : Int → (ι → O) → O} (g0 : 0 ≤ n1035) (g1 : n1035 ≤ n1033) (g2 : n1033 ≤ 1000000) (g3 : n1033 < n1035 + m) (g4 : few25 t1036) (g5 : n1033 ≤ (t1036.2.1.length : Int)) (g6 : n1034 = addrV t1036 (Int.toNat n1035))
    (h1 : ∀ (a0 : Int), (a0 = addrV t1036 (Int.toNat n1033)) → T P (H1 a0)),
    T P (fun K => ref29_addr_L0 m n1033 n1034 n1035 t1036 (fun a0 => H1 a0 K)) := by
  intro m
  induction m with
  | zero => intros; omega
  | succ m ih =>
    intro n1033 n1034 n1035 t1036 H1 g0 g1 g2 g3 g4 g5 g6 h1
    rw [ref29_addr_L0]
    unfold ref29_addr_L0.body
    have := wr64 ((n1034 + (1 : Int)))
    have := wr64 ((n1035 + (1 : Int)))
    have := g4.2.1
    repeat' first
      | (intro q; try subst q)
      | ((with_reducible refine h1 _ ?_) <;> try (first | exact addr_next2 (by assumption) (by assumption) (by omega) (by omega) | exact mapR_nil | contradiction | (simp only [List.length_append, List.length_cons, List.length_nil] <;> omega) | (rw [show n1033 = n1035 from by omega]; assumption) | with_reducible rfl | assumption | omega | solve_by_elim [szL_get, szO_f, szO_d, szO_s]))
      | ((with_reducible refine tna ?_ ?_ ?_); omega; omega)
      | ((with_reducible refine tnb ?_ ?_); focus (first | omega | (first | exact addr_next2 (by assumption) (by assumption) (by omega) (by omega) | exact mapR_nil | contradiction | (simp only [List.length_append, List.length_cons, List.length_nil] <;> omega) | (rw [show n1033 = n1035 from by omega]; assumption) | with_reducible rfl | assumption | omega | solve_by_elim [szL_get, szO_f, szO_d, szO_s])))
      | ((with_reducible refine tn ?_ ?_); assumption)
      | with_reducible refine tct ?_
      | with_reducible refine tcf ?_
      | with_reducible refine tcn ?_
      | with_reducible refine tcd ?_ ?_
      | with_reducible refine tce ?_ ?_
      | with_reducible refine tcne ?_ ?_
      | with_reducible refine tc ?_ ?_
      | ((with_reducible refine ih ?_ ?_ ?_ ?_ ?_ ?_ ?_ h1) <;> try (first | exact addr_next2 (by assumption) (by assumption) (by omega) (by omega) | exact mapR_nil | contradiction | (simp only [List.length_append, List.length_cons, List.length_nil] <;> omega) | (rw [show n1033 = n1035 from by omega]; assumption) | with_reducible rfl | assumption | omega | solve_by_elim [szL_get, szO_f, szO_d, szO_s]))

theorem ref29_addr_c {t1031 : Prog} {n1032 : Int} {H1 : Int → (ι → O) → O} (g0 : few25 t1031) (g1 : 0 ≤ n1032) (g2 : n1032 ≤ (t1031.2.1.length : Int))
    (h1 : ∀ (a0 : Int), (a0 = addrV t1031 (Int.toNat n1032)) → T P (H1 a0)) :
    T P (fun K => ref29_addr t1031 n1032 (fun a0 => H1 a0 K)) := by
  unfold ref29_addr ref29_addr.body
  have := rb
  have := g0.2.1
  repeat' first
    | (intro q; try subst q)
    | ((with_reducible refine h1 _ ?_) <;> try (first | with_reducible rfl | assumption | omega | solve_by_elim [szL_get, szO_f, szO_d, szO_s]))
    | ((with_reducible refine tna ?_ ?_ ?_); omega; omega)
    | ((with_reducible refine tnb ?_ ?_); focus (first | omega | (first | with_reducible rfl | assumption | omega | solve_by_elim [szL_get, szO_f, szO_d, szO_s])))
    | ((with_reducible refine tn ?_ ?_); assumption)
    | with_reducible refine tct ?_
    | with_reducible refine tcf ?_
    | with_reducible refine tcn ?_
    | with_reducible refine tcd ?_ ?_
    | with_reducible refine tce ?_ ?_
    | with_reducible refine tcne ?_ ?_
    | with_reducible refine tc ?_ ?_
    | ((with_reducible refine ref29_addr_L0_c ?_ ?_ ?_ ?_ ?_ ?_ ?_ ?_) <;> try (first | with_reducible rfl | assumption | omega | solve_by_elim [szL_get, szO_f, szO_d, szO_s]))

theorem ref29_Addrs_L0_c : ∀ {m : Nat} {n1028 : Int} {t1029 : Prog} {ns1030 : List Int} {H1 : (List Int) → (ι → O) → O} (g0 : 0 ≤ n1028) (g1 : n1028 ≤ (((List.length t1029.2.1) : Nat) : Int)) (g2 : (((List.length t1029.2.1) : Nat) : Int) < n1028 + m) (g3 : few25 t1029) (g4 : ns1030 = mapR (addrV t1029) n1028) (g5 : (ns1030.length : Int) = n1028)
    (h1 : ∀ (a0 : List Int), (a0 = mapR (addrV t1029) (t1029.2.1.length : Int)) → T P (H1 a0)),
    T P (fun K => ref29_Addrs_L0 m n1028 t1029 ns1030 (fun a0 => H1 a0 K)) := by
  intro m
  induction m with
  | zero => intros; omega
  | succ m ih =>
    intro n1028 t1029 ns1030 H1 g0 g1 g2 g3 g4 g5 h1
    rw [ref29_Addrs_L0]
    unfold ref29_Addrs_L0.body
    have := wr64 ((n1028 + (1 : Int)))
    have := g3.2.1
    repeat' first
      | (intro q; try subst q)
      | ((with_reducible refine h1 _ ?_) <;> try (first | exact ad_next (by assumption) rfl (by assumption) (by omega) (by omega) | exact mapR_nil | contradiction | (simp only [List.length_append, List.length_cons, List.length_nil] <;> omega) | (rw [show (t1029.2.1.length : Int) = n1028 from by omega]; assumption) | with_reducible rfl | assumption | omega | solve_by_elim [szL_get, szO_f, szO_d, szO_s]))
      | ((with_reducible refine tna ?_ ?_ ?_); omega; omega)
      | ((with_reducible refine tnb ?_ ?_); focus (first | omega | (first | exact ad_next (by assumption) rfl (by assumption) (by omega) (by omega) | exact mapR_nil | contradiction | (simp only [List.length_append, List.length_cons, List.length_nil] <;> omega) | (rw [show (t1029.2.1.length : Int) = n1028 from by omega]; assumption) | with_reducible rfl | assumption | omega | solve_by_elim [szL_get, szO_f, szO_d, szO_s])))
      | ((with_reducible refine tn ?_ ?_); assumption)
      | with_reducible refine tct ?_
      | with_reducible refine tcf ?_
      | with_reducible refine tcn ?_
      | with_reducible refine tcd ?_ ?_
      | with_reducible refine tce ?_ ?_
      | with_reducible refine tcne ?_ ?_
      | with_reducible refine tc ?_ ?_
      | ((with_reducible refine ih ?_ ?_ ?_ ?_ ?_ ?_ h1) <;> try (first | exact ad_next (by assumption) rfl (by assumption) (by omega) (by omega) | exact mapR_nil | contradiction | (simp only [List.length_append, List.length_cons, List.length_nil] <;> omega) | (rw [show (t1029.2.1.length : Int) = n1028 from by omega]; assumption) | with_reducible rfl | assumption | omega | solve_by_elim [szL_get, szO_f, szO_d, szO_s]))
      | ((with_reducible refine ref29_addr_c ?_ ?_ ?_ ?_) <;> try (first | exact ad_next (by assumption) rfl (by assumption) (by omega) (by omega) | exact mapR_nil | contradiction | (simp only [List.length_append, List.length_cons, List.length_nil] <;> omega) | (rw [show (t1029.2.1.length : Int) = n1028 from by omega]; assumption) | with_reducible rfl | assumption | omega | solve_by_elim [szL_get, szO_f, szO_d, szO_s]))

theorem ref29_Addrs_c {t1027 : Prog} {H1 : (List Int) → (ι → O) → O} (g0 : few25 t1027)
    (h1 : ∀ (a0 : List Int), (a0 = mapR (addrV t1027) (t1027.2.1.length : Int)) → T P (H1 a0)) :
    T P (fun K => ref29_Addrs t1027 (fun a0 => H1 a0 K)) := by
  unfold ref29_Addrs ref29_Addrs.body
  have := rb
  have := g0.2.1
  repeat' first
    | (intro q; try subst q)
    | ((with_reducible refine h1 _ ?_) <;> try (first | exact mapR_nil | exact List.length_nil ▸ rfl | with_reducible rfl | assumption | omega | solve_by_elim [szL_get, szO_f, szO_d, szO_s]))
    | ((with_reducible refine tna ?_ ?_ ?_); omega; omega)
    | ((with_reducible refine tnb ?_ ?_); focus (first | omega | (first | exact mapR_nil | exact List.length_nil ▸ rfl | with_reducible rfl | assumption | omega | solve_by_elim [szL_get, szO_f, szO_d, szO_s])))
    | ((with_reducible refine tn ?_ ?_); assumption)
    | with_reducible refine tct ?_
    | with_reducible refine tcf ?_
    | with_reducible refine tcn ?_
    | with_reducible refine tcd ?_ ?_
    | with_reducible refine tce ?_ ?_
    | with_reducible refine tcne ?_ ?_
    | with_reducible refine tc ?_ ?_
    | ((with_reducible refine ref29_Addrs_L0_c ?_ ?_ ?_ ?_ ?_ ?_ ?_) <;> try (first | exact mapR_nil | exact List.length_nil ▸ rfl | with_reducible rfl | assumption | omega | solve_by_elim [szL_get, szO_f, szO_d, szO_s]))

theorem place_Words_round0_c {n1058 : Int} {t1059 : Line} {n1060 : Int} {H1 : Bool → Int → (ι → O) → O} 
    (h1 : ∀ (a0 : Bool) (a1 : Int), (a0 = true) → (a1 = t1059.2.1) → T P (H1 a0 a1)) :
    T P (fun K => place_Words_round0 n1058 t1059 n1060 (fun a0 a1 => H1 a0 a1 K)) := by
  unfold place_Words_round0 place_Words_round0.body
  repeat' first
    | (intro q; try subst q)
    | ((with_reducible refine h1 _ _ ?_ ?_) <;> try (first | with_reducible rfl | assumption | omega | solve_by_elim [szL_get, szO_f, szO_d, szO_s]))
    | ((with_reducible refine tna ?_ ?_ ?_); omega; omega)
    | ((with_reducible refine tnb ?_ ?_); focus (first | omega | (first | with_reducible rfl | assumption | omega | solve_by_elim [szL_get, szO_f, szO_d, szO_s])))
    | ((with_reducible refine tn ?_ ?_); assumption)
    | with_reducible refine tct ?_
    | with_reducible refine tcf ?_
    | with_reducible refine tcn ?_
    | with_reducible refine tcd ?_ ?_
    | with_reducible refine tce ?_ ?_
    | with_reducible refine tcne ?_ ?_
    | with_reducible refine tc ?_ ?_

theorem ref29_Words_c {t1076 : Prog} {H1 : Int → (ι → O) → O} (g0 : few25 t1076)
    (h1 : ∀ (a0 : Int), (a0 = addrV t1076 t1076.2.1.length) → T P (H1 a0)) :
    T P (fun K => ref29_Words t1076 (fun a0 => H1 a0 K)) := by
  unfold ref29_Words ref29_Words.body
  have := g0.2.1
  repeat' first
    | (intro q; try subst q)
    | ((with_reducible refine h1 _ ?_) <;> try (first | (simp only [Int.toNat_natCast] at *; assumption) | with_reducible rfl | assumption | omega | solve_by_elim [szL_get, szO_f, szO_d, szO_s]))
    | ((with_reducible refine tna ?_ ?_ ?_); omega; omega)
    | ((with_reducible refine tnb ?_ ?_); focus (first | omega | (first | (simp only [Int.toNat_natCast] at *; assumption) | with_reducible rfl | assumption | omega | solve_by_elim [szL_get, szO_f, szO_d, szO_s])))
    | ((with_reducible refine tn ?_ ?_); assumption)
    | with_reducible refine tct ?_
    | with_reducible refine tcf ?_
    | with_reducible refine tcn ?_
    | with_reducible refine tcd ?_ ?_
    | with_reducible refine tce ?_ ?_
    | with_reducible refine tcne ?_ ?_
    | with_reducible refine tc ?_ ?_
    | ((with_reducible refine ref29_addr_c ?_ ?_ ?_ ?_) <;> try (first | (simp only [Int.toNat_natCast] at *; assumption) | with_reducible rfl | assumption | omega | solve_by_elim [szL_get, szO_f, szO_d, szO_s]))

theorem num_Near_c {n1104 : Int} {n1105 : Int} {n1106 : Int} {H1 : Int → (ι → O) → O} 
    (h1 : ∀ (a0 : Int), (a0 = nearV n1104 n1105 n1106) → T P (H1 a0)) :
    T P (fun K => num_Near n1104 n1105 n1106 (fun a0 => H1 a0 K)) := by
  unfold num_Near num_Near.body
  repeat' first
    | (intro q; try subst q)
    | ((with_reducible refine h1 _ ?_) <;> try (first | (unfold nearV; rw [if_pos (by assumption)]) | (unfold nearV; rw [if_neg (by assumption), if_pos (by assumption)]) | (unfold nearV; rw [if_neg (by assumption), if_neg (by assumption)]) | with_reducible rfl | assumption | omega | solve_by_elim [szL_get, szO_f, szO_d, szO_s]))
    | ((with_reducible refine tna ?_ ?_ ?_); omega; omega)
    | ((with_reducible refine tnb ?_ ?_); focus (first | omega | (first | (unfold nearV; rw [if_pos (by assumption)]) | (unfold nearV; rw [if_neg (by assumption), if_pos (by assumption)]) | (unfold nearV; rw [if_neg (by assumption), if_neg (by assumption)]) | with_reducible rfl | assumption | omega | solve_by_elim [szL_get, szO_f, szO_d, szO_s])))
    | ((with_reducible refine tn ?_ ?_); assumption)
    | with_reducible refine tct ?_
    | with_reducible refine tcf ?_
    | with_reducible refine tcn ?_
    | with_reducible refine tcd ?_ ?_
    | with_reducible refine tce ?_ ?_
    | with_reducible refine tcne ?_ ?_
    | with_reducible refine tc ?_ ?_

theorem fun_Frame_c {t1103 : Func} {H1 : Int → (ι → O) → O} 
    (h1 : ∀ (a0 : Int), (a0 = frameV t1103.2.1 t1103.2.2.1) → T P (H1 a0)) :
    T P (fun K => fun_Frame t1103 (fun a0 => H1 a0 K)) := by
  unfold fun_Frame fun_Frame.body
  repeat' first
    | (intro q; try subst q)
    | ((with_reducible refine h1 _ ?_) <;> try (first | rfl | with_reducible rfl | assumption | omega | solve_by_elim [szL_get, szO_f, szO_d, szO_s]))
    | ((with_reducible refine tna ?_ ?_ ?_); omega; omega)
    | ((with_reducible refine tnb ?_ ?_); focus (first | omega | (first | rfl | with_reducible rfl | assumption | omega | solve_by_elim [szL_get, szO_f, szO_d, szO_s])))
    | ((with_reducible refine tn ?_ ?_); assumption)
    | with_reducible refine tct ?_
    | with_reducible refine tcf ?_
    | with_reducible refine tcn ?_
    | with_reducible refine tcd ?_ ?_
    | with_reducible refine tce ?_ ?_
    | with_reducible refine tcne ?_ ?_
    | with_reducible refine tc ?_ ?_
    | ((with_reducible refine num_Near_c ?_))

theorem place_Fns_round0_c {n1100 : Int} {t1101 : Line} {t1102 : Prog} {H1 : Bool → Prog → (ι → O) → O} {H2 : Bool → Prog → (List (Int × Int × Int × Int × Int × Int × Unit)) → (ι → O) → O} (g0 : 0 ≤ n1100) (g1 : n1100 < (t1102.1.length : Int))
    (h1 : ∀ (a0 : Bool) (a1 : Prog), t1102 = a1 → T P (H1 a0 a1))
    (h2 : ∀ (a0 : Bool) (a1 : Prog) (a2 : List (Int × Int × Int × Int × Int × Int × Unit)), t1102 = a1 → T P (H2 a0 a1 a2)) :
    T P (fun K => place_Fns_round0 n1100 t1101 t1102 (fun a0 a1 => H1 a0 a1 K) (fun a0 a1 a2 => H2 a0 a1 a2 K)) := by
  unfold place_Fns_round0 place_Fns_round0.body
  have := wr64 ((t1101.2.1 - (((List.length (List.getD t1102.1 (Int.toNat n1100) ((0 : Int), ((0 : Int), ((⟨#[]⟩ : ByteArray), ((0 : Int), ([], ((0 : Int), (false, ((0 : Int), ((0 : Int), ([], ([], ([], ([], ())))))))))))))).2.2.2.2.2.2.2.2.2.2.1) : Nat) : Int)))
  repeat' first
    | (intro q; try subst q)
    | ((with_reducible refine h1 _ _ ?_) <;> try (first | with_reducible rfl | assumption | omega | solve_by_elim [szL_get, szO_f, szO_d, szO_s]))
    | ((with_reducible refine h2 _ _ _ ?_) <;> try (first | with_reducible rfl | assumption | omega | solve_by_elim [szL_get, szO_f, szO_d, szO_s]))
    | ((with_reducible refine tna ?_ ?_ ?_); omega; omega)
    | ((with_reducible refine tnb ?_ ?_); focus (first | omega | (first | with_reducible rfl | assumption | omega | solve_by_elim [szL_get, szO_f, szO_d, szO_s])))
    | ((with_reducible refine tn ?_ ?_); assumption)
    | with_reducible refine tct ?_
    | with_reducible refine tcf ?_
    | with_reducible refine tcn ?_
    | with_reducible refine tcd ?_ ?_
    | with_reducible refine tce ?_ ?_
    | with_reducible refine tcne ?_ ?_
    | with_reducible refine tc ?_ ?_
    | ((with_reducible refine fun_Frame_c ?_))

theorem place_laidfn1_L0_c : ∀ {m : Nat} {n1129 : Int} {n1130 : Int} {n1131 : Int} {n1132 : Int} {t1133 : Prog} {t1134 : Plan} {ns1135 : List Int} {H1 : Int → Int → Prog → Plan → (List Int) → (ι → O) → O} {H2 : Int → Int → Prog → Plan → (List Int) → (ι → O) → O} (g0 : 0 ≤ n1130) (g1 : n1130 ≤ n1129) (g2 : n1129 ≤ 1000000) (g3 : n1129 < n1130 + m) (g4 : few25 t1133) (g5 : n1129 = (t1133.1.length : Int)) (g6 : n1132 = startV t1133 t1134 (Int.toNat n1130)) (g7 : ns1135 = mapR (stV t1133 t1134) n1130) (g8 : (ns1135.length : Int) = n1130)
    (h1 : ∀ (a0 : Int) (a1 : Int) (a2 : Prog) (a3 : Plan) (a4 : List Int), n1131 = a0 → t1133 = a2 → t1134 = a3 → (False) → T P (H1 a0 a1 a2 a3 a4))
    (h2 : ∀ (a0 : Int) (a1 : Int) (a2 : Prog) (a3 : Plan) (a4 : List Int), n1131 = a0 → t1133 = a2 → t1134 = a3 → (a4 = mapR (stV t1133 t1134) n1129) → T P (H2 a0 a1 a2 a3 a4)),
    T P (fun K => place_laidfn1_L0 m n1129 n1130 n1131 n1132 t1133 t1134 ns1135 (fun a0 a1 a2 a3 a4 => H1 a0 a1 a2 a3 a4 K) (fun a0 a1 a2 a3 a4 => H2 a0 a1 a2 a3 a4 K)) := by
  intro m
  induction m with
  | zero => intros; omega
  | succ m ih =>
    intro n1129 n1130 n1131 n1132 t1133 t1134 ns1135 H1 H2 g0 g1 g2 g3 g4 g5 g6 g7 g8 h1 h2
    rw [place_laidfn1_L0]
    unfold place_laidfn1_L0.body
    have := wr64 ((n1130 + (1 : Int)))
    have := g4.1
    repeat' first
      | (intro q; try subst q)
      | ((with_reducible refine h1 _ _ _ _ _ ?_ ?_ ?_ ?_) <;> try (first | exact start_next (by assumption) (by assumption) (by omega) (by omega) | exact st_next (by assumption) (by assumption) (by assumption) (by omega) (by omega) | exact mapR_nil | contradiction | (simp only [List.length_append, List.length_cons, List.length_nil] <;> omega) | (rw [show n1129 = n1130 from by omega]; assumption) | with_reducible rfl | assumption | omega | solve_by_elim [szL_get, szO_f, szO_d, szO_s]))
      | ((with_reducible refine h2 _ _ _ _ _ ?_ ?_ ?_ ?_) <;> try (first | exact start_next (by assumption) (by assumption) (by omega) (by omega) | exact st_next (by assumption) (by assumption) (by assumption) (by omega) (by omega) | exact mapR_nil | contradiction | (simp only [List.length_append, List.length_cons, List.length_nil] <;> omega) | (rw [show n1129 = n1130 from by omega]; assumption) | with_reducible rfl | assumption | omega | solve_by_elim [szL_get, szO_f, szO_d, szO_s]))
      | ((with_reducible refine tna ?_ ?_ ?_); omega; omega)
      | ((with_reducible refine tnb ?_ ?_); focus (first | omega | (first | exact start_next (by assumption) (by assumption) (by omega) (by omega) | exact st_next (by assumption) (by assumption) (by assumption) (by omega) (by omega) | exact mapR_nil | contradiction | (simp only [List.length_append, List.length_cons, List.length_nil] <;> omega) | (rw [show n1129 = n1130 from by omega]; assumption) | with_reducible rfl | assumption | omega | solve_by_elim [szL_get, szO_f, szO_d, szO_s])))
      | ((with_reducible refine tn ?_ ?_); assumption)
      | with_reducible refine tct ?_
      | with_reducible refine tcf ?_
      | with_reducible refine tcn ?_
      | with_reducible refine tcd ?_ ?_
      | with_reducible refine tce ?_ ?_
      | with_reducible refine tcne ?_ ?_
      | with_reducible refine tc ?_ ?_
      | ((with_reducible refine ih ?_ ?_ ?_ ?_ ?_ ?_ ?_ ?_ ?_ h1 h2) <;> try (first | exact start_next (by assumption) (by assumption) (by omega) (by omega) | exact st_next (by assumption) (by assumption) (by assumption) (by omega) (by omega) | exact mapR_nil | contradiction | (simp only [List.length_append, List.length_cons, List.length_nil] <;> omega) | (rw [show n1129 = n1130 from by omega]; assumption) | with_reducible rfl | assumption | omega | solve_by_elim [szL_get, szO_f, szO_d, szO_s]))
      | ((with_reducible refine place_funsfn1_c ?_))
      | ((with_reducible refine place_Starts_round0_c ?_ ?_) <;> try (first | exact start_next (by assumption) (by assumption) (by omega) (by omega) | exact st_next (by assumption) (by assumption) (by assumption) (by omega) (by omega) | exact mapR_nil | contradiction | (simp only [List.length_append, List.length_cons, List.length_nil] <;> omega) | (rw [show n1129 = n1130 from by omega]; assumption) | with_reducible rfl | assumption | omega | solve_by_elim [szL_get, szO_f, szO_d, szO_s]))

theorem place_laidfn1_c {n1125 : Int} {n1126 : Int} {t1127 : Prog} {t1128 : Plan} {H1 : Int → Int → Prog → Plan → (List Int) → (ι → O) → O} (g0 : few25 t1127) (g1 : n1125 = (t1127.1.length : Int)) (g2 : n1126 = 2)
    (h1 : ∀ (a0 : Int) (a1 : Int) (a2 : Prog) (a3 : Plan) (a4 : List Int), n1125 = a0 → t1127 = a2 → t1128 = a3 → (a4 = mapR (stV t1127 t1128) n1125) → T P (H1 a0 a1 a2 a3 a4)) :
    T P (fun K => place_laidfn1 n1125 n1126 t1127 t1128 (fun a0 a1 a2 a3 a4 => H1 a0 a1 a2 a3 a4 K)) := by
  unfold place_laidfn1 place_laidfn1.body
  have := rb
  have := g0.1
  repeat' first
    | (intro q; try subst q)
    | ((with_reducible refine h1 _ _ _ _ _ ?_ ?_ ?_ ?_) <;> try (first | exact mapR_nil | contradiction | exact List.length_nil ▸ rfl | with_reducible rfl | assumption | omega | solve_by_elim [szL_get, szO_f, szO_d, szO_s]))
    | ((with_reducible refine tna ?_ ?_ ?_); omega; omega)
    | ((with_reducible refine tnb ?_ ?_); focus (first | omega | (first | exact mapR_nil | contradiction | exact List.length_nil ▸ rfl | with_reducible rfl | assumption | omega | solve_by_elim [szL_get, szO_f, szO_d, szO_s])))
    | ((with_reducible refine tn ?_ ?_); assumption)
    | with_reducible refine tct ?_
    | with_reducible refine tcf ?_
    | with_reducible refine tcn ?_
    | with_reducible refine tcd ?_ ?_
    | with_reducible refine tce ?_ ?_
    | with_reducible refine tcne ?_ ?_
    | with_reducible refine tc ?_ ?_
    | ((with_reducible refine place_laidfn1_L0_c ?_ ?_ ?_ ?_ ?_ ?_ ?_ ?_ ?_ ?_ ?_) <;> try (first | exact mapR_nil | contradiction | exact List.length_nil ▸ rfl | with_reducible rfl | assumption | omega | solve_by_elim [szL_get, szO_f, szO_d, szO_s]))

theorem place_Starts_c {t1119 : Prog} {t1120 : Plan} {H1 : (List Int) → (ι → O) → O} (g0 : few25 t1119)
    (h1 : ∀ (a0 : List Int), (a0 = mapR (stV t1119 t1120) (t1119.1.length : Int)) → T P (H1 a0)) :
    T P (fun K => place_Starts t1119 t1120 (fun a0 => H1 a0 K)) := by
  unfold place_Starts place_Starts.body
  have := g0.1
  repeat' first
    | (intro q; try subst q)
    | ((with_reducible refine h1 _ ?_) <;> try (first | with_reducible rfl | assumption | omega | solve_by_elim [szL_get, szO_f, szO_d, szO_s]))
    | ((with_reducible refine tna ?_ ?_ ?_); omega; omega)
    | ((with_reducible refine tnb ?_ ?_); focus (first | omega | (first | with_reducible rfl | assumption | omega | solve_by_elim [szL_get, szO_f, szO_d, szO_s])))
    | ((with_reducible refine tn ?_ ?_); assumption)
    | with_reducible refine tct ?_
    | with_reducible refine tcf ?_
    | with_reducible refine tcn ?_
    | with_reducible refine tcd ?_ ?_
    | with_reducible refine tce ?_ ?_
    | with_reducible refine tcne ?_ ?_
    | with_reducible refine tc ?_ ?_
    | ((with_reducible refine place_funs_c ?_))
    | ((with_reducible refine place_laidfn1_c ?_ ?_ ?_ ?_) <;> try (first | with_reducible rfl | assumption | omega | solve_by_elim [szL_get, szO_f, szO_d, szO_s]))

theorem place_laidfn1v1_L0_c : ∀ {m : Nat} {n1170 : Int} {n1171 : Int} {n1172 : Int} {n1173 : Int} {n1174 : Int} {t1175 : Prog} {t1176 : Plan} {H1 : Int → Int → Int → Prog → Plan → (ι → O) → O} {H2 : Int → Int → Int → Prog → Plan → (ι → O) → O} (g0 : 0 ≤ n1171) (g1 : n1171 ≤ n1170) (g2 : n1170 ≤ 1000000) (g3 : n1170 < n1171 + m) (g4 : few25 t1175) (g5 : n1170 = (t1175.1.length : Int)) (g6 : n1172 = startV t1175 t1176 (Int.toNat n1171)) (g7 : n1174 = startV t1175 t1176 (Int.toNat n1171))
    (h1 : ∀ (a0 : Int) (a1 : Int) (a2 : Int) (a3 : Prog) (a4 : Plan), n1173 = a1 → t1175 = a3 → t1176 = a4 → (False) → T P (H1 a0 a1 a2 a3 a4))
    (h2 : ∀ (a0 : Int) (a1 : Int) (a2 : Int) (a3 : Prog) (a4 : Plan), n1173 = a1 → t1175 = a3 → t1176 = a4 → (a0 = startV t1175 t1176 (Int.toNat n1170)) → T P (H2 a0 a1 a2 a3 a4)),
    T P (fun K => place_laidfn1v1_L0 m n1170 n1171 n1172 n1173 n1174 t1175 t1176 (fun a0 a1 a2 a3 a4 => H1 a0 a1 a2 a3 a4 K) (fun a0 a1 a2 a3 a4 => H2 a0 a1 a2 a3 a4 K)) := by
  intro m
  induction m with
  | zero => intros; omega
  | succ m ih =>
    intro n1170 n1171 n1172 n1173 n1174 t1175 t1176 H1 H2 g0 g1 g2 g3 g4 g5 g6 g7 h1 h2
    rw [place_laidfn1v1_L0]
    unfold place_laidfn1v1_L0.body
    have := wr64 ((n1171 + (1 : Int)))
    have := g4.1
    repeat' first
      | (intro q; try subst q)
      | ((with_reducible refine h1 _ _ _ _ _ ?_ ?_ ?_ ?_) <;> try (first | exact start_next (by assumption) (by assumption) (by omega) (by omega) | exact mapR_nil | contradiction | (simp only [List.length_append, List.length_cons, List.length_nil] <;> omega) | (rw [show n1170 = n1171 from by omega]; assumption) | with_reducible rfl | assumption | omega | solve_by_elim [szL_get, szO_f, szO_d, szO_s]))
      | ((with_reducible refine h2 _ _ _ _ _ ?_ ?_ ?_ ?_) <;> try (first | exact start_next (by assumption) (by assumption) (by omega) (by omega) | exact mapR_nil | contradiction | (simp only [List.length_append, List.length_cons, List.length_nil] <;> omega) | (rw [show n1170 = n1171 from by omega]; assumption) | with_reducible rfl | assumption | omega | solve_by_elim [szL_get, szO_f, szO_d, szO_s]))
      | ((with_reducible refine tna ?_ ?_ ?_); omega; omega)
      | ((with_reducible refine tnb ?_ ?_); focus (first | omega | (first | exact start_next (by assumption) (by assumption) (by omega) (by omega) | exact mapR_nil | contradiction | (simp only [List.length_append, List.length_cons, List.length_nil] <;> omega) | (rw [show n1170 = n1171 from by omega]; assumption) | with_reducible rfl | assumption | omega | solve_by_elim [szL_get, szO_f, szO_d, szO_s])))
      | ((with_reducible refine tn ?_ ?_); assumption)
      | with_reducible refine tct ?_
      | with_reducible refine tcf ?_
      | with_reducible refine tcn ?_
      | with_reducible refine tcd ?_ ?_
      | with_reducible refine tce ?_ ?_
      | with_reducible refine tcne ?_ ?_
      | with_reducible refine tc ?_ ?_
      | ((with_reducible refine ih ?_ ?_ ?_ ?_ ?_ ?_ ?_ ?_ h1 h2) <;> try (first | exact start_next (by assumption) (by assumption) (by omega) (by omega) | exact mapR_nil | contradiction | (simp only [List.length_append, List.length_cons, List.length_nil] <;> omega) | (rw [show n1170 = n1171 from by omega]; assumption) | with_reducible rfl | assumption | omega | solve_by_elim [szL_get, szO_f, szO_d, szO_s]))
      | ((with_reducible refine place_funsfn1_c ?_))
      | ((with_reducible refine place_Code_round0_c ?_))

theorem place_laidfn1v1_c {n1165 : Int} {n1166 : Int} {n1167 : Int} {t1168 : Prog} {t1169 : Plan} {H1 : Int → Int → Int → Prog → Plan → (ι → O) → O} (g0 : few25 t1168) (g1 : n1166 = (t1168.1.length : Int)) (g2 : n1165 = 2) (g3 : n1167 = 2)
    (h1 : ∀ (a0 : Int) (a1 : Int) (a2 : Int) (a3 : Prog) (a4 : Plan), n1166 = a1 → t1168 = a3 → t1169 = a4 → (a0 = startV t1168 t1169 (Int.toNat n1166)) → T P (H1 a0 a1 a2 a3 a4)) :
    T P (fun K => place_laidfn1v1 n1165 n1166 n1167 t1168 t1169 (fun a0 a1 a2 a3 a4 => H1 a0 a1 a2 a3 a4 K)) := by
  unfold place_laidfn1v1 place_laidfn1v1.body
  have := rb
  have := g0.1
  repeat' first
    | (intro q; try subst q)
    | ((with_reducible refine h1 _ _ _ _ _ ?_ ?_ ?_ ?_) <;> try (first | contradiction | with_reducible rfl | assumption | omega | solve_by_elim [szL_get, szO_f, szO_d, szO_s]))
    | ((with_reducible refine tna ?_ ?_ ?_); omega; omega)
    | ((with_reducible refine tnb ?_ ?_); focus (first | omega | (first | contradiction | with_reducible rfl | assumption | omega | solve_by_elim [szL_get, szO_f, szO_d, szO_s])))
    | ((with_reducible refine tn ?_ ?_); assumption)
    | with_reducible refine tct ?_
    | with_reducible refine tcf ?_
    | with_reducible refine tcn ?_
    | with_reducible refine tcd ?_ ?_
    | with_reducible refine tce ?_ ?_
    | with_reducible refine tcne ?_ ?_
    | with_reducible refine tc ?_ ?_
    | ((with_reducible refine place_laidfn1v1_L0_c ?_ ?_ ?_ ?_ ?_ ?_ ?_ ?_ ?_ ?_) <;> try (first | contradiction | with_reducible rfl | assumption | omega | solve_by_elim [szL_get, szO_f, szO_d, szO_s]))

theorem place_Code_c {t1159 : Prog} {t1160 : Plan} {H1 : Int → (ι → O) → O} (g0 : few25 t1159)
    (h1 : ∀ (a0 : Int), (a0 = startV t1159 t1160 t1159.1.length) → T P (H1 a0)) :
    T P (fun K => place_Code t1159 t1160 (fun a0 => H1 a0 K)) := by
  unfold place_Code place_Code.body
  have := g0.1
  repeat' first
    | (intro q; try subst q)
    | ((with_reducible refine h1 _ ?_) <;> try (first | (simp only [Int.toNat_natCast] at *; assumption) | with_reducible rfl | assumption | omega | solve_by_elim [szL_get, szO_f, szO_d, szO_s]))
    | ((with_reducible refine tna ?_ ?_ ?_); omega; omega)
    | ((with_reducible refine tnb ?_ ?_); focus (first | omega | (first | (simp only [Int.toNat_natCast] at *; assumption) | with_reducible rfl | assumption | omega | solve_by_elim [szL_get, szO_f, szO_d, szO_s])))
    | ((with_reducible refine tn ?_ ?_); assumption)
    | with_reducible refine tct ?_
    | with_reducible refine tcf ?_
    | with_reducible refine tcn ?_
    | with_reducible refine tcd ?_ ?_
    | with_reducible refine tce ?_ ?_
    | with_reducible refine tcne ?_ ?_
    | with_reducible refine tc ?_ ?_
    | ((with_reducible refine place_funs_c ?_))
    | ((with_reducible refine place_laidfn1v1_c ?_ ?_ ?_ ?_ ?_) <;> try (first | (simp only [Int.toNat_natCast] at *; assumption) | with_reducible rfl | assumption | omega | solve_by_elim [szL_get, szO_f, szO_d, szO_s]))

theorem place_laidfn1v2_L0_c : ∀ {m : Nat} {n1206 : Int} {n1207 : Int} {n1208 : Int} {n1209 : Int} {t1210 : Prog} {ns1211 : List Int} {H1 : Int → Int → Prog → (List Int) → (ι → O) → O} {H2 : Int → Int → Prog → (List Int) → (ι → O) → O} (g0 : 0 ≤ n1207) (g1 : n1207 ≤ n1206) (g2 : n1206 ≤ 1000000) (g3 : n1206 < n1207 + m) (g4 : few25 t1210) (g5 : n1206 = (t1210.2.1.length : Int)) (g6 : n1209 = addrV t1210 (Int.toNat n1207)) (g7 : ns1211 = mapR (addrV t1210) n1207) (g8 : (ns1211.length : Int) = n1207)
    (h1 : ∀ (a0 : Int) (a1 : Int) (a2 : Prog) (a3 : List Int), n1208 = a0 → t1210 = a2 → (False) → T P (H1 a0 a1 a2 a3))
    (h2 : ∀ (a0 : Int) (a1 : Int) (a2 : Prog) (a3 : List Int), n1208 = a0 → t1210 = a2 → (a3 = mapR (addrV t1210) n1206) → T P (H2 a0 a1 a2 a3)),
    T P (fun K => place_laidfn1v2_L0 m n1206 n1207 n1208 n1209 t1210 ns1211 (fun a0 a1 a2 a3 => H1 a0 a1 a2 a3 K) (fun a0 a1 a2 a3 => H2 a0 a1 a2 a3 K)) := by
  intro m
  induction m with
  | zero => intros; omega
  | succ m ih =>
    intro n1206 n1207 n1208 n1209 t1210 ns1211 H1 H2 g0 g1 g2 g3 g4 g5 g6 g7 g8 h1 h2
    rw [place_laidfn1v2_L0]
    unfold place_laidfn1v2_L0.body
    have := wr64 ((n1207 + (1 : Int)))
    have := g4.2.1
    repeat' first
      | (intro q; try subst q)
      | ((with_reducible refine h1 _ _ _ _ ?_ ?_ ?_) <;> try (first | exact addr_next (by assumption) (by assumption) (by omega) (by omega) | exact ad_next (by assumption) (by assumption) (by assumption) (by omega) (by omega) | exact mapR_nil | contradiction | (simp only [List.length_append, List.length_cons, List.length_nil] <;> omega) | (rw [show n1206 = n1207 from by omega]; assumption) | with_reducible rfl | assumption | omega | solve_by_elim [szL_get, szO_f, szO_d, szO_s]))
      | ((with_reducible refine h2 _ _ _ _ ?_ ?_ ?_) <;> try (first | exact addr_next (by assumption) (by assumption) (by omega) (by omega) | exact ad_next (by assumption) (by assumption) (by assumption) (by omega) (by omega) | exact mapR_nil | contradiction | (simp only [List.length_append, List.length_cons, List.length_nil] <;> omega) | (rw [show n1206 = n1207 from by omega]; assumption) | with_reducible rfl | assumption | omega | solve_by_elim [szL_get, szO_f, szO_d, szO_s]))
      | ((with_reducible refine tna ?_ ?_ ?_); omega; omega)
      | ((with_reducible refine tnb ?_ ?_); focus (first | omega | (first | exact addr_next (by assumption) (by assumption) (by omega) (by omega) | exact ad_next (by assumption) (by assumption) (by assumption) (by omega) (by omega) | exact mapR_nil | contradiction | (simp only [List.length_append, List.length_cons, List.length_nil] <;> omega) | (rw [show n1206 = n1207 from by omega]; assumption) | with_reducible rfl | assumption | omega | solve_by_elim [szL_get, szO_f, szO_d, szO_s])))
      | ((with_reducible refine tn ?_ ?_); assumption)
      | with_reducible refine tct ?_
      | with_reducible refine tcf ?_
      | with_reducible refine tcn ?_
      | with_reducible refine tcd ?_ ?_
      | with_reducible refine tce ?_ ?_
      | with_reducible refine tcne ?_ ?_
      | with_reducible refine tc ?_ ?_
      | ((with_reducible refine ih ?_ ?_ ?_ ?_ ?_ ?_ ?_ ?_ ?_ h1 h2) <;> try (first | exact addr_next (by assumption) (by assumption) (by omega) (by omega) | exact ad_next (by assumption) (by assumption) (by assumption) (by omega) (by omega) | exact mapR_nil | contradiction | (simp only [List.length_append, List.length_cons, List.length_nil] <;> omega) | (rw [show n1206 = n1207 from by omega]; assumption) | with_reducible rfl | assumption | omega | solve_by_elim [szL_get, szO_f, szO_d, szO_s]))
      | ((with_reducible refine place_datsfn1_c ?_ ?_ ?_ ?_) <;> try (first | exact addr_next (by assumption) (by assumption) (by omega) (by omega) | exact ad_next (by assumption) (by assumption) (by assumption) (by omega) (by omega) | exact mapR_nil | contradiction | (simp only [List.length_append, List.length_cons, List.length_nil] <;> omega) | (rw [show n1206 = n1207 from by omega]; assumption) | with_reducible rfl | assumption | omega | solve_by_elim [szL_get, szO_f, szO_d, szO_s]))
      | ((with_reducible refine place_Addrs_round0_c ?_ ?_) <;> try (first | exact addr_next (by assumption) (by assumption) (by omega) (by omega) | exact ad_next (by assumption) (by assumption) (by assumption) (by omega) (by omega) | exact mapR_nil | contradiction | (simp only [List.length_append, List.length_cons, List.length_nil] <;> omega) | (rw [show n1206 = n1207 from by omega]; assumption) | with_reducible rfl | assumption | omega | solve_by_elim [szL_get, szO_f, szO_d, szO_s]))

theorem place_laidfn1v2_c {n1203 : Int} {n1204 : Int} {t1205 : Prog} {H1 : Int → Int → Prog → (List Int) → (ι → O) → O} (g0 : few25 t1205) (g1 : n1203 = (t1205.2.1.length : Int)) (g2 : n1204 = 0)
    (h1 : ∀ (a0 : Int) (a1 : Int) (a2 : Prog) (a3 : List Int), n1203 = a0 → t1205 = a2 → (a3 = mapR (addrV t1205) n1203) → T P (H1 a0 a1 a2 a3)) :
    T P (fun K => place_laidfn1v2 n1203 n1204 t1205 (fun a0 a1 a2 a3 => H1 a0 a1 a2 a3 K)) := by
  unfold place_laidfn1v2 place_laidfn1v2.body
  have := rb
  have := g0.2.1
  repeat' first
    | (intro q; try subst q)
    | ((with_reducible refine h1 _ _ _ _ ?_ ?_ ?_) <;> try (first | exact mapR_nil | contradiction | exact List.length_nil ▸ rfl | with_reducible rfl | assumption | omega | solve_by_elim [szL_get, szO_f, szO_d, szO_s]))
    | ((with_reducible refine tna ?_ ?_ ?_); omega; omega)
    | ((with_reducible refine tnb ?_ ?_); focus (first | omega | (first | exact mapR_nil | contradiction | exact List.length_nil ▸ rfl | with_reducible rfl | assumption | omega | solve_by_elim [szL_get, szO_f, szO_d, szO_s])))
    | ((with_reducible refine tn ?_ ?_); assumption)
    | with_reducible refine tct ?_
    | with_reducible refine tcf ?_
    | with_reducible refine tcn ?_
    | with_reducible refine tcd ?_ ?_
    | with_reducible refine tce ?_ ?_
    | with_reducible refine tcne ?_ ?_
    | with_reducible refine tc ?_ ?_
    | ((with_reducible refine place_laidfn1v2_L0_c ?_ ?_ ?_ ?_ ?_ ?_ ?_ ?_ ?_ ?_ ?_) <;> try (first | exact mapR_nil | contradiction | exact List.length_nil ▸ rfl | with_reducible rfl | assumption | omega | solve_by_elim [szL_get, szO_f, szO_d, szO_s]))

theorem place_Addrs_c {t1199 : Prog} {H1 : (List Int) → (ι → O) → O} (g0 : few25 t1199)
    (h1 : ∀ (a0 : List Int), (a0 = mapR (addrV t1199) (t1199.2.1.length : Int)) → T P (H1 a0)) :
    T P (fun K => place_Addrs t1199 (fun a0 => H1 a0 K)) := by
  unfold place_Addrs place_Addrs.body
  have := g0.2.1
  repeat' first
    | (intro q; try subst q)
    | ((with_reducible refine h1 _ ?_) <;> try (first | with_reducible rfl | assumption | omega | solve_by_elim [szL_get, szO_f, szO_d, szO_s]))
    | ((with_reducible refine tna ?_ ?_ ?_); omega; omega)
    | ((with_reducible refine tnb ?_ ?_); focus (first | omega | (first | with_reducible rfl | assumption | omega | solve_by_elim [szL_get, szO_f, szO_d, szO_s])))
    | ((with_reducible refine tn ?_ ?_); assumption)
    | with_reducible refine tct ?_
    | with_reducible refine tcf ?_
    | with_reducible refine tcn ?_
    | with_reducible refine tcd ?_ ?_
    | with_reducible refine tce ?_ ?_
    | with_reducible refine tcne ?_ ?_
    | with_reducible refine tc ?_ ?_
    | ((with_reducible refine place_dats_c ?_))
    | ((with_reducible refine place_laidfn1v2_c ?_ ?_ ?_ ?_) <;> try (first | with_reducible rfl | assumption | omega | solve_by_elim [szL_get, szO_f, szO_d, szO_s]))

theorem place_laidfn1v3_L0_c : ∀ {m : Nat} {n1239 : Int} {n1240 : Int} {n1241 : Int} {n1242 : Int} {n1243 : Int} {t1244 : Prog} {H1 : Int → Int → Int → Prog → (ι → O) → O} {H2 : Int → Int → Int → Prog → (ι → O) → O} (g0 : 0 ≤ n1240) (g1 : n1240 ≤ n1239) (g2 : n1239 ≤ 1000000) (g3 : n1239 < n1240 + m) (g4 : few25 t1244) (g5 : n1239 = (t1244.2.1.length : Int)) (g6 : n1241 = addrV t1244 (Int.toNat n1240)) (g7 : n1243 = addrV t1244 (Int.toNat n1240))
    (h1 : ∀ (a0 : Int) (a1 : Int) (a2 : Int) (a3 : Prog), n1242 = a1 → t1244 = a3 → (False) → T P (H1 a0 a1 a2 a3))
    (h2 : ∀ (a0 : Int) (a1 : Int) (a2 : Int) (a3 : Prog), n1242 = a1 → t1244 = a3 → (a0 = addrV t1244 (Int.toNat n1239)) → T P (H2 a0 a1 a2 a3)),
    T P (fun K => place_laidfn1v3_L0 m n1239 n1240 n1241 n1242 n1243 t1244 (fun a0 a1 a2 a3 => H1 a0 a1 a2 a3 K) (fun a0 a1 a2 a3 => H2 a0 a1 a2 a3 K)) := by
  intro m
  induction m with
  | zero => intros; omega
  | succ m ih =>
    intro n1239 n1240 n1241 n1242 n1243 t1244 H1 H2 g0 g1 g2 g3 g4 g5 g6 g7 h1 h2
    rw [place_laidfn1v3_L0]
    unfold place_laidfn1v3_L0.body
    have := wr64 ((n1240 + (1 : Int)))
    have := g4.2.1
    repeat' first
      | (intro q; try subst q)
      | ((with_reducible refine h1 _ _ _ _ ?_ ?_ ?_) <;> try (first | exact addr_next (by assumption) (by assumption) (by omega) (by omega) | exact mapR_nil | contradiction | (simp only [List.length_append, List.length_cons, List.length_nil] <;> omega) | (rw [show n1239 = n1240 from by omega]; assumption) | with_reducible rfl | assumption | omega | solve_by_elim [szL_get, szO_f, szO_d, szO_s]))
      | ((with_reducible refine h2 _ _ _ _ ?_ ?_ ?_) <;> try (first | exact addr_next (by assumption) (by assumption) (by omega) (by omega) | exact mapR_nil | contradiction | (simp only [List.length_append, List.length_cons, List.length_nil] <;> omega) | (rw [show n1239 = n1240 from by omega]; assumption) | with_reducible rfl | assumption | omega | solve_by_elim [szL_get, szO_f, szO_d, szO_s]))
      | ((with_reducible refine tna ?_ ?_ ?_); omega; omega)
      | ((with_reducible refine tnb ?_ ?_); focus (first | omega | (first | exact addr_next (by assumption) (by assumption) (by omega) (by omega) | exact mapR_nil | contradiction | (simp only [List.length_append, List.length_cons, List.length_nil] <;> omega) | (rw [show n1239 = n1240 from by omega]; assumption) | with_reducible rfl | assumption | omega | solve_by_elim [szL_get, szO_f, szO_d, szO_s])))
      | ((with_reducible refine tn ?_ ?_); assumption)
      | with_reducible refine tct ?_
      | with_reducible refine tcf ?_
      | with_reducible refine tcn ?_
      | with_reducible refine tcd ?_ ?_
      | with_reducible refine tce ?_ ?_
      | with_reducible refine tcne ?_ ?_
      | with_reducible refine tc ?_ ?_
      | ((with_reducible refine ih ?_ ?_ ?_ ?_ ?_ ?_ ?_ ?_ h1 h2) <;> try (first | exact addr_next (by assumption) (by assumption) (by omega) (by omega) | exact mapR_nil | contradiction | (simp only [List.length_append, List.length_cons, List.length_nil] <;> omega) | (rw [show n1239 = n1240 from by omega]; assumption) | with_reducible rfl | assumption | omega | solve_by_elim [szL_get, szO_f, szO_d, szO_s]))
      | ((with_reducible refine place_datsfn1_c ?_ ?_ ?_ ?_) <;> try (first | exact addr_next (by assumption) (by assumption) (by omega) (by omega) | exact mapR_nil | contradiction | (simp only [List.length_append, List.length_cons, List.length_nil] <;> omega) | (rw [show n1239 = n1240 from by omega]; assumption) | with_reducible rfl | assumption | omega | solve_by_elim [szL_get, szO_f, szO_d, szO_s]))
      | ((with_reducible refine place_Words_round0_c ?_))

theorem place_laidfn1v3_c {n1235 : Int} {n1236 : Int} {n1237 : Int} {t1238 : Prog} {H1 : Int → Int → Int → Prog → (ι → O) → O} (g0 : few25 t1238) (g1 : n1236 = (t1238.2.1.length : Int)) (g2 : n1235 = 0) (g3 : n1237 = 0)
    (h1 : ∀ (a0 : Int) (a1 : Int) (a2 : Int) (a3 : Prog), n1236 = a1 → t1238 = a3 → (a0 = addrV t1238 (Int.toNat n1236)) → T P (H1 a0 a1 a2 a3)) :
    T P (fun K => place_laidfn1v3 n1235 n1236 n1237 t1238 (fun a0 a1 a2 a3 => H1 a0 a1 a2 a3 K)) := by
  unfold place_laidfn1v3 place_laidfn1v3.body
  have := rb
  have := g0.2.1
  repeat' first
    | (intro q; try subst q)
    | ((with_reducible refine h1 _ _ _ _ ?_ ?_ ?_) <;> try (first | contradiction | with_reducible rfl | assumption | omega | solve_by_elim [szL_get, szO_f, szO_d, szO_s]))
    | ((with_reducible refine tna ?_ ?_ ?_); omega; omega)
    | ((with_reducible refine tnb ?_ ?_); focus (first | omega | (first | contradiction | with_reducible rfl | assumption | omega | solve_by_elim [szL_get, szO_f, szO_d, szO_s])))
    | ((with_reducible refine tn ?_ ?_); assumption)
    | with_reducible refine tct ?_
    | with_reducible refine tcf ?_
    | with_reducible refine tcn ?_
    | with_reducible refine tcd ?_ ?_
    | with_reducible refine tce ?_ ?_
    | with_reducible refine tcne ?_ ?_
    | with_reducible refine tc ?_ ?_
    | ((with_reducible refine place_laidfn1v3_L0_c ?_ ?_ ?_ ?_ ?_ ?_ ?_ ?_ ?_ ?_) <;> try (first | contradiction | with_reducible rfl | assumption | omega | solve_by_elim [szL_get, szO_f, szO_d, szO_s]))

theorem place_Words_c {t1231 : Prog} {H1 : Int → (ι → O) → O} (g0 : few25 t1231)
    (h1 : ∀ (a0 : Int), (a0 = addrV t1231 t1231.2.1.length) → T P (H1 a0)) :
    T P (fun K => place_Words t1231 (fun a0 => H1 a0 K)) := by
  unfold place_Words place_Words.body
  have := g0.2.1
  repeat' first
    | (intro q; try subst q)
    | ((with_reducible refine h1 _ ?_) <;> try (first | (simp only [Int.toNat_natCast] at *; assumption) | with_reducible rfl | assumption | omega | solve_by_elim [szL_get, szO_f, szO_d, szO_s]))
    | ((with_reducible refine tna ?_ ?_ ?_); omega; omega)
    | ((with_reducible refine tnb ?_ ?_); focus (first | omega | (first | (simp only [Int.toNat_natCast] at *; assumption) | with_reducible rfl | assumption | omega | solve_by_elim [szL_get, szO_f, szO_d, szO_s])))
    | ((with_reducible refine tn ?_ ?_); assumption)
    | with_reducible refine tct ?_
    | with_reducible refine tcf ?_
    | with_reducible refine tcn ?_
    | with_reducible refine tcd ?_ ?_
    | with_reducible refine tce ?_ ?_
    | with_reducible refine tcne ?_ ?_
    | with_reducible refine tc ?_ ?_
    | ((with_reducible refine place_dats_c ?_))
    | ((with_reducible refine place_laidfn1v3_c ?_ ?_ ?_ ?_ ?_) <;> try (first | (simp only [Int.toNat_natCast] at *; assumption) | with_reducible rfl | assumption | omega | solve_by_elim [szL_get, szO_f, szO_d, szO_s]))

theorem place_Fns_round0v1_c {n1285 : Int} {t1286 : Line} {t1287 : Prog} {ts1288 : List (Int × Int × Int × Int × Int × Int × Unit)} {H1 : Bool → Prog → (List (Int × Int × Int × Int × Int × Int × Unit)) → (ι → O) → O} {H2 : Bool → Prog → (List (Int × Int × Int × Int × Int × Int × Unit)) → (ι → O) → O} (g0 : 0 ≤ n1285) (g1 : n1285 < (t1287.1.length : Int)) (g2 : ts1288.length ≤ 1000000)
    (h1 : ∀ (a0 : Bool) (a1 : Prog) (a2 : List (Int × Int × Int × Int × Int × Int × Unit)), t1287 = a1 → ts1288 = a2 → (a0 = true) → (t1286.1 = t1286.2.1) → T P (H1 a0 a1 a2))
    (h2 : ∀ (a0 : Bool) (a1 : Prog) (a2 : List (Int × Int × Int × Int × Int × Int × Unit)), t1287 = a1 → (a0 = true) → (t1286.1 ≠ t1286.2.1) → (a2 = ts1288 ++ [((List.getD t1287.1 (Int.toNat n1285) ((0 : Int), ((0 : Int), ((⟨#[]⟩ : ByteArray), ((0 : Int), ([], ((0 : Int), (false, ((0 : Int), ((0 : Int), ([], ([], ([], ([], ())))))))))))))).1, (List.getD t1287.1 (Int.toNat n1285) ((0 : Int), ((0 : Int), ((⟨#[]⟩ : ByteArray), ((0 : Int), ([], ((0 : Int), (false, ((0 : Int), ((0 : Int), ([], ([], ([], ([], ())))))))))))))).2.1, t1286.1, IntKind.wrap .i64 (t1286.2.1 - ((List.getD t1287.1 (Int.toNat n1285) ((0 : Int), ((0 : Int), ((⟨#[]⟩ : ByteArray), ((0 : Int), ([], ((0 : Int), (false, ((0 : Int), ((0 : Int), ([], ([], ([], ([], ())))))))))))))).2.2.2.2.2.2.2.2.2.2.1.length : Int)), t1286.2.1, frameV (List.getD t1287.1 (Int.toNat n1285) ((0 : Int), ((0 : Int), ((⟨#[]⟩ : ByteArray), ((0 : Int), ([], ((0 : Int), (false, ((0 : Int), ((0 : Int), ([], ([], ([], ([], ())))))))))))))).2.2.2.2.1 (List.getD t1287.1 (Int.toNat n1285) ((0 : Int), ((0 : Int), ((⟨#[]⟩ : ByteArray), ((0 : Int), ([], ((0 : Int), (false, ((0 : Int), ((0 : Int), ([], ([], ([], ([], ())))))))))))))).2.2.2.2.2.1, ())]) → T P (H2 a0 a1 a2)) :
    T P (fun K => place_Fns_round0v1 n1285 t1286 t1287 ts1288 (fun a0 a1 a2 => H1 a0 a1 a2 K) (fun a0 a1 a2 => H2 a0 a1 a2 K)) := by
  unfold place_Fns_round0v1 place_Fns_round0v1.body
  have := wr64 ((t1286.2.1 - (((List.length (List.getD t1287.1 (Int.toNat n1285) ((0 : Int), ((0 : Int), ((⟨#[]⟩ : ByteArray), ((0 : Int), ([], ((0 : Int), (false, ((0 : Int), ((0 : Int), ([], ([], ([], ([], ())))))))))))))).2.2.2.2.2.2.2.2.2.2.1) : Nat) : Int)))
  repeat' first
    | (intro q; try subst q)
    | ((with_reducible refine h1 _ _ _ ?_ ?_ ?_ ?_) <;> try (first | exact rfl | (simp only [List.length_cons, List.length_nil] <;> omega) | with_reducible rfl | assumption | omega | solve_by_elim [szL_get, szO_f, szO_d, szO_s]))
    | ((with_reducible refine h2 _ _ _ ?_ ?_ ?_ ?_) <;> try (first | exact rfl | (simp only [List.length_cons, List.length_nil] <;> omega) | with_reducible rfl | assumption | omega | solve_by_elim [szL_get, szO_f, szO_d, szO_s]))
    | ((with_reducible refine tna ?_ ?_ ?_); omega; omega)
    | ((with_reducible refine tnb ?_ ?_); focus (first | omega | (first | exact rfl | (simp only [List.length_cons, List.length_nil] <;> omega) | with_reducible rfl | assumption | omega | solve_by_elim [szL_get, szO_f, szO_d, szO_s])))
    | ((with_reducible refine tn ?_ ?_); assumption)
    | with_reducible refine tct ?_
    | with_reducible refine tcf ?_
    | with_reducible refine tcn ?_
    | with_reducible refine tcd ?_ ?_
    | with_reducible refine tce ?_ ?_
    | with_reducible refine tcne ?_ ?_
    | with_reducible refine tc ?_ ?_
    | ((with_reducible refine fun_Frame_c ?_))

theorem place_laidfn1v4_L0_c : ∀ {m : Nat} {n1274 : Int} {n1275 : Int} {t1276 : Prog} {n1277 : Int} {n1278 : Int} {t1279 : Prog} {t1280 : Plan} {ts1281 : List (Int × Int × Int × Int × Int × Int × Unit)} {H1 : Prog → Int → Int → Prog → Plan → (List (Int × Int × Int × Int × Int × Int × Unit)) → (ι → O) → O} {H2 : Prog → Int → Int → Prog → Plan → (List (Int × Int × Int × Int × Int × Int × Unit)) → (ι → O) → O} (g0 : 0 ≤ n1275) (g1 : n1275 ≤ n1274) (g2 : n1274 ≤ 1000000) (g3 : n1274 < n1275 + m) (g4 : few25 t1279) (g5 : n1274 = (t1279.1.length : Int)) (g6 : t1276 = t1279) (g7 : n1278 = startV t1279 t1280 (Int.toNat n1275)) (g8 : ts1281 = fnsV t1279 t1280 (Int.toNat n1275)) (g9 : (ts1281.length : Int) ≤ n1275)
    (h1 : ∀ (a0 : Prog) (a1 : Int) (a2 : Int) (a3 : Prog) (a4 : Plan) (a5 : List (Int × Int × Int × Int × Int × Int × Unit)), t1276 = a0 → n1277 = a1 → t1279 = a3 → t1280 = a4 → (False) → T P (H1 a0 a1 a2 a3 a4 a5))
    (h2 : ∀ (a0 : Prog) (a1 : Int) (a2 : Int) (a3 : Prog) (a4 : Plan) (a5 : List (Int × Int × Int × Int × Int × Int × Unit)), t1276 = a0 → n1277 = a1 → t1279 = a3 → t1280 = a4 → (a5 = fnsV t1279 t1280 (Int.toNat n1274)) → T P (H2 a0 a1 a2 a3 a4 a5)),
    T P (fun K => place_laidfn1v4_L0 m n1274 n1275 t1276 n1277 n1278 t1279 t1280 ts1281 (fun a0 a1 a2 a3 a4 a5 => H1 a0 a1 a2 a3 a4 a5 K) (fun a0 a1 a2 a3 a4 a5 => H2 a0 a1 a2 a3 a4 a5 K)) := by
  intro m
  induction m with
  | zero => intros; omega
  | succ m ih =>
    intro n1274 n1275 t1276 n1277 n1278 t1279 t1280 ts1281 H1 H2 g0 g1 g2 g3 g4 g5 g6 g7 g8 g9 h1 h2
    rw [place_laidfn1v4_L0]
    unfold place_laidfn1v4_L0.body
    have := wr64 ((n1275 + (1 : Int)))
    have := g4.1
    subst g6
    repeat' first
      | (intro q; try subst q)
      | ((with_reducible refine h1 _ _ _ _ _ _ ?_ ?_ ?_ ?_ ?_) <;> try (first | exact fn_same (by assumption) (by assumption) (by assumption) (by omega) (by omega) (by assumption) | exact fn_more (by assumption) (by assumption) (by assumption) (by omega) (by omega) (by assumption) rfl | exact fn_skip (by assumption) (by assumption) (by assumption) (by omega) (by omega) | exact fn_ref (by assumption) (by assumption) (by assumption) (by omega) (by omega) | exact start_next (by assumption) (by assumption) (by omega) (by omega) | exact mapR_nil | contradiction | (simp only [List.length_append, List.length_cons, List.length_nil] <;> omega) | (rw [show n1274 = n1275 from by omega]; assumption) | with_reducible rfl | assumption | omega | solve_by_elim [szL_get, szO_f, szO_d, szO_s]))
      | ((with_reducible refine h2 _ _ _ _ _ _ ?_ ?_ ?_ ?_ ?_) <;> try (first | exact fn_same (by assumption) (by assumption) (by assumption) (by omega) (by omega) (by assumption) | exact fn_more (by assumption) (by assumption) (by assumption) (by omega) (by omega) (by assumption) rfl | exact fn_skip (by assumption) (by assumption) (by assumption) (by omega) (by omega) | exact fn_ref (by assumption) (by assumption) (by assumption) (by omega) (by omega) | exact start_next (by assumption) (by assumption) (by omega) (by omega) | exact mapR_nil | contradiction | (simp only [List.length_append, List.length_cons, List.length_nil] <;> omega) | (rw [show n1274 = n1275 from by omega]; assumption) | with_reducible rfl | assumption | omega | solve_by_elim [szL_get, szO_f, szO_d, szO_s]))
      | ((with_reducible refine tna ?_ ?_ ?_); omega; omega)
      | ((with_reducible refine tnb ?_ ?_); focus (first | omega | (first | exact fn_same (by assumption) (by assumption) (by assumption) (by omega) (by omega) (by assumption) | exact fn_more (by assumption) (by assumption) (by assumption) (by omega) (by omega) (by assumption) rfl | exact fn_skip (by assumption) (by assumption) (by assumption) (by omega) (by omega) | exact fn_ref (by assumption) (by assumption) (by assumption) (by omega) (by omega) | exact start_next (by assumption) (by assumption) (by omega) (by omega) | exact mapR_nil | contradiction | (simp only [List.length_append, List.length_cons, List.length_nil] <;> omega) | (rw [show n1274 = n1275 from by omega]; assumption) | with_reducible rfl | assumption | omega | solve_by_elim [szL_get, szO_f, szO_d, szO_s])))
      | ((with_reducible refine tn ?_ ?_); assumption)
      | with_reducible refine tct ?_
      | with_reducible refine tcf ?_
      | with_reducible refine tcn ?_
      | with_reducible refine tcd ?_ ?_
      | with_reducible refine tce ?_ ?_
      | with_reducible refine tcne ?_ ?_
      | with_reducible refine tc ?_ ?_
      | ((with_reducible refine ih ?_ ?_ ?_ ?_ ?_ ?_ ?_ ?_ ?_ ?_ h1 h2) <;> try (first | exact fn_same (by assumption) (by assumption) (by assumption) (by omega) (by omega) (by assumption) | exact fn_more (by assumption) (by assumption) (by assumption) (by omega) (by omega) (by assumption) rfl | exact fn_skip (by assumption) (by assumption) (by assumption) (by omega) (by omega) | exact fn_ref (by assumption) (by assumption) (by assumption) (by omega) (by omega) | exact start_next (by assumption) (by assumption) (by omega) (by omega) | exact mapR_nil | contradiction | (simp only [List.length_append, List.length_cons, List.length_nil] <;> omega) | (rw [show n1274 = n1275 from by omega]; assumption) | with_reducible rfl | assumption | omega | solve_by_elim [szL_get, szO_f, szO_d, szO_s]))
      | ((with_reducible refine place_funsfn1_c ?_))
      | ((with_reducible refine place_Fns_round0v1_c ?_ ?_ ?_ ?_ ?_) <;> try (first | exact fn_same (by assumption) (by assumption) (by assumption) (by omega) (by omega) (by assumption) | exact fn_more (by assumption) (by assumption) (by assumption) (by omega) (by omega) (by assumption) rfl | exact fn_skip (by assumption) (by assumption) (by assumption) (by omega) (by omega) | exact fn_ref (by assumption) (by assumption) (by assumption) (by omega) (by omega) | exact start_next (by assumption) (by assumption) (by omega) (by omega) | exact mapR_nil | contradiction | (simp only [List.length_append, List.length_cons, List.length_nil] <;> omega) | (rw [show n1274 = n1275 from by omega]; assumption) | with_reducible rfl | assumption | omega | solve_by_elim [szL_get, szO_f, szO_d, szO_s]))

theorem place_laidfn1v4_c {t1269 : Prog} {n1270 : Int} {n1271 : Int} {t1272 : Prog} {t1273 : Plan} {H1 : Prog → Int → Int → Prog → Plan → (List (Int × Int × Int × Int × Int × Int × Unit)) → (ι → O) → O} (g0 : few25 t1272) (g1 : n1270 = (t1272.1.length : Int)) (g2 : t1269 = t1272) (g3 : n1271 = 2)
    (h1 : ∀ (a0 : Prog) (a1 : Int) (a2 : Int) (a3 : Prog) (a4 : Plan) (a5 : List (Int × Int × Int × Int × Int × Int × Unit)), t1269 = a0 → n1270 = a1 → t1272 = a3 → t1273 = a4 → (a5 = fnsV t1272 t1273 (Int.toNat n1270)) → T P (H1 a0 a1 a2 a3 a4 a5)) :
    T P (fun K => place_laidfn1v4 t1269 n1270 n1271 t1272 t1273 (fun a0 a1 a2 a3 a4 a5 => H1 a0 a1 a2 a3 a4 a5 K)) := by
  unfold place_laidfn1v4 place_laidfn1v4.body
  have := rb
  have := g0.1
  repeat' first
    | (intro q; try subst q)
    | ((with_reducible refine h1 _ _ _ _ _ _ ?_ ?_ ?_ ?_ ?_) <;> try (first | contradiction | exact Int.le_refl _ | with_reducible rfl | assumption | omega | solve_by_elim [szL_get, szO_f, szO_d, szO_s]))
    | ((with_reducible refine tna ?_ ?_ ?_); omega; omega)
    | ((with_reducible refine tnb ?_ ?_); focus (first | omega | (first | contradiction | exact Int.le_refl _ | with_reducible rfl | assumption | omega | solve_by_elim [szL_get, szO_f, szO_d, szO_s])))
    | ((with_reducible refine tn ?_ ?_); assumption)
    | with_reducible refine tct ?_
    | with_reducible refine tcf ?_
    | with_reducible refine tcn ?_
    | with_reducible refine tcd ?_ ?_
    | with_reducible refine tce ?_ ?_
    | with_reducible refine tcne ?_ ?_
    | with_reducible refine tc ?_ ?_
    | ((with_reducible refine place_laidfn1v4_L0_c ?_ ?_ ?_ ?_ ?_ ?_ ?_ ?_ ?_ ?_ ?_ ?_) <;> try (first | contradiction | exact Int.le_refl _ | with_reducible rfl | assumption | omega | solve_by_elim [szL_get, szO_f, szO_d, szO_s]))

theorem place_Fns_c {t1263 : Prog} {t1264 : Plan} {H1 : (List (Int × Int × Int × Int × Int × Int × Unit)) → (ι → O) → O} (g0 : few25 t1263)
    (h1 : ∀ (a0 : List (Int × Int × Int × Int × Int × Int × Unit)), (a0 = fnsV t1263 t1264 t1263.1.length) → T P (H1 a0)) :
    T P (fun K => place_Fns t1263 t1264 (fun a0 => H1 a0 K)) := by
  unfold place_Fns place_Fns.body
  have := g0.1
  repeat' first
    | (intro q; try subst q)
    | ((with_reducible refine h1 _ ?_) <;> try (first | (simp only [Int.toNat_natCast] at *; assumption) | with_reducible rfl | assumption | omega | solve_by_elim [szL_get, szO_f, szO_d, szO_s]))
    | ((with_reducible refine tna ?_ ?_ ?_); omega; omega)
    | ((with_reducible refine tnb ?_ ?_); focus (first | omega | (first | (simp only [Int.toNat_natCast] at *; assumption) | with_reducible rfl | assumption | omega | solve_by_elim [szL_get, szO_f, szO_d, szO_s])))
    | ((with_reducible refine tn ?_ ?_); assumption)
    | with_reducible refine tct ?_
    | with_reducible refine tcf ?_
    | with_reducible refine tcn ?_
    | with_reducible refine tcd ?_ ?_
    | with_reducible refine tce ?_ ?_
    | with_reducible refine tcne ?_ ?_
    | with_reducible refine tc ?_ ?_
    | ((with_reducible refine place_funs_c ?_))
    | ((with_reducible refine place_laidfn1v4_c ?_ ?_ ?_ ?_ ?_) <;> try (first | (simp only [Int.toNat_natCast] at *; assumption) | with_reducible rfl | assumption | omega | solve_by_elim [szL_get, szO_f, szO_d, szO_s]))

theorem ref01_Near_c {n1325 : Int} {n1326 : Int} {n1327 : Int} {H1 : Int → (ι → O) → O} 
    (h1 : ∀ (a0 : Int), (a0 = nearV n1325 n1326 n1327) → T P (H1 a0)) :
    T P (fun K => ref01_Near n1325 n1326 n1327 (fun a0 => H1 a0 K)) := by
  unfold ref01_Near ref01_Near.body
  repeat' first
    | (intro q; try subst q)
    | ((with_reducible refine h1 _ ?_) <;> try (first | (unfold nearV; rw [if_pos (by assumption)]) | (unfold nearV; rw [if_neg (by assumption), if_pos (by assumption)]) | (unfold nearV; rw [if_neg (by assumption), if_neg (by assumption)]) | with_reducible rfl | assumption | omega | solve_by_elim [szL_get, szO_f, szO_d, szO_s]))
    | ((with_reducible refine tna ?_ ?_ ?_); omega; omega)
    | ((with_reducible refine tnb ?_ ?_); focus (first | omega | (first | (unfold nearV; rw [if_pos (by assumption)]) | (unfold nearV; rw [if_neg (by assumption), if_pos (by assumption)]) | (unfold nearV; rw [if_neg (by assumption), if_neg (by assumption)]) | with_reducible rfl | assumption | omega | solve_by_elim [szL_get, szO_f, szO_d, szO_s])))
    | ((with_reducible refine tn ?_ ?_); assumption)
    | with_reducible refine tct ?_
    | with_reducible refine tcf ?_
    | with_reducible refine tcn ?_
    | with_reducible refine tcd ?_ ?_
    | with_reducible refine tce ?_ ?_
    | with_reducible refine tcne ?_ ?_
    | with_reducible refine tc ?_ ?_

theorem ref16_Frame_c {t1324 : Func} {H1 : Int → (ι → O) → O} 
    (h1 : ∀ (a0 : Int), (a0 = frameV t1324.2.1 t1324.2.2.1) → T P (H1 a0)) :
    T P (fun K => ref16_Frame t1324 (fun a0 => H1 a0 K)) := by
  unfold ref16_Frame ref16_Frame.body
  repeat' first
    | (intro q; try subst q)
    | ((with_reducible refine h1 _ ?_) <;> try (first | rfl | with_reducible rfl | assumption | omega | solve_by_elim [szL_get, szO_f, szO_d, szO_s]))
    | ((with_reducible refine tna ?_ ?_ ?_); omega; omega)
    | ((with_reducible refine tnb ?_ ?_); focus (first | omega | (first | rfl | with_reducible rfl | assumption | omega | solve_by_elim [szL_get, szO_f, szO_d, szO_s])))
    | ((with_reducible refine tn ?_ ?_); assumption)
    | with_reducible refine tct ?_
    | with_reducible refine tcf ?_
    | with_reducible refine tcn ?_
    | with_reducible refine tcd ?_ ?_
    | with_reducible refine tce ?_ ?_
    | with_reducible refine tcne ?_ ?_
    | with_reducible refine tc ?_ ?_
    | ((with_reducible refine ref01_Near_c ?_))

theorem ref29_Fns_L0_c : ∀ {m : Nat} {n1317 : Int} {t1318 : Prog} {t1319 : Plan} {ts1320 : List (Int × Int × Int × Int × Int × Int × Unit)} {H1 : (List (Int × Int × Int × Int × Int × Int × Unit)) → (ι → O) → O} (g0 : 0 ≤ n1317) (g1 : n1317 ≤ (((List.length t1318.1) : Nat) : Int)) (g2 : (((List.length t1318.1) : Nat) : Int) < n1317 + m) (g3 : few25 t1318) (g4 : ts1320 = fnsV t1318 t1319 (Int.toNat n1317)) (g5 : (ts1320.length : Int) ≤ n1317)
    (h1 : ∀ (a0 : List (Int × Int × Int × Int × Int × Int × Unit)), (a0 = fnsV t1318 t1319 t1318.1.length) → T P (H1 a0)),
    T P (fun K => ref29_Fns_L0 m n1317 t1318 t1319 ts1320 (fun a0 => H1 a0 K)) := by
  intro m
  induction m with
  | zero => intros; omega
  | succ m ih =>
    intro n1317 t1318 t1319 ts1320 H1 g0 g1 g2 g3 g4 g5 h1
    rw [ref29_Fns_L0]
    unfold ref29_Fns_L0.body
    have := wr64 ((n1317 + (1 : Int)))
    have := g3.1
    repeat' first
      | (intro q; try subst q)
      | ((with_reducible refine h1 _ ?_) <;> try (first | exact fn_same (by assumption) (by assumption) (by assumption) (by omega) (by omega) (by assumption) | exact fn_more (by assumption) (by assumption) (by assumption) (by omega) (by omega) (by assumption) rfl | exact fn_skip (by assumption) (by assumption) (by assumption) (by omega) (by omega) | exact fn_ref (by assumption) (by assumption) (by assumption) (by omega) (by omega) | exact start_next (by assumption) (by assumption) (by omega) (by omega) | exact mapR_nil | contradiction | (simp only [List.length_append, List.length_cons, List.length_nil] <;> omega) | (rw [show t1318.1.length = Int.toNat n1317 from by omega]; assumption) | with_reducible rfl | assumption | omega | solve_by_elim [szL_get, szO_f, szO_d, szO_s]))
      | ((with_reducible refine tna ?_ ?_ ?_); omega; omega)
      | ((with_reducible refine tnb ?_ ?_); focus (first | omega | (first | exact fn_same (by assumption) (by assumption) (by assumption) (by omega) (by omega) (by assumption) | exact fn_more (by assumption) (by assumption) (by assumption) (by omega) (by omega) (by assumption) rfl | exact fn_skip (by assumption) (by assumption) (by assumption) (by omega) (by omega) | exact fn_ref (by assumption) (by assumption) (by assumption) (by omega) (by omega) | exact start_next (by assumption) (by assumption) (by omega) (by omega) | exact mapR_nil | contradiction | (simp only [List.length_append, List.length_cons, List.length_nil] <;> omega) | (rw [show t1318.1.length = Int.toNat n1317 from by omega]; assumption) | with_reducible rfl | assumption | omega | solve_by_elim [szL_get, szO_f, szO_d, szO_s])))
      | ((with_reducible refine tn ?_ ?_); assumption)
      | with_reducible refine tct ?_
      | with_reducible refine tcf ?_
      | with_reducible refine tcn ?_
      | with_reducible refine tcd ?_ ?_
      | with_reducible refine tce ?_ ?_
      | with_reducible refine tcne ?_ ?_
      | with_reducible refine tc ?_ ?_
      | ((with_reducible refine ih ?_ ?_ ?_ ?_ ?_ ?_ h1) <;> try (first | exact fn_same (by assumption) (by assumption) (by assumption) (by omega) (by omega) (by assumption) | exact fn_more (by assumption) (by assumption) (by assumption) (by omega) (by omega) (by assumption) rfl | exact fn_skip (by assumption) (by assumption) (by assumption) (by omega) (by omega) | exact fn_ref (by assumption) (by assumption) (by assumption) (by omega) (by omega) | exact start_next (by assumption) (by assumption) (by omega) (by omega) | exact mapR_nil | contradiction | (simp only [List.length_append, List.length_cons, List.length_nil] <;> omega) | (rw [show t1318.1.length = Int.toNat n1317 from by omega]; assumption) | with_reducible rfl | assumption | omega | solve_by_elim [szL_get, szO_f, szO_d, szO_s]))
      | ((with_reducible refine ref28_Kept_c ?_))
      | ((with_reducible refine ref29_start_c ?_ ?_ ?_ ?_) <;> try (first | exact fn_same (by assumption) (by assumption) (by assumption) (by omega) (by omega) (by assumption) | exact fn_more (by assumption) (by assumption) (by assumption) (by omega) (by omega) (by assumption) rfl | exact fn_skip (by assumption) (by assumption) (by assumption) (by omega) (by omega) | exact fn_ref (by assumption) (by assumption) (by assumption) (by omega) (by omega) | exact start_next (by assumption) (by assumption) (by omega) (by omega) | exact mapR_nil | contradiction | (simp only [List.length_append, List.length_cons, List.length_nil] <;> omega) | (rw [show t1318.1.length = Int.toNat n1317 from by omega]; assumption) | with_reducible rfl | assumption | omega | solve_by_elim [szL_get, szO_f, szO_d, szO_s]))
      | ((with_reducible refine ref16_Frame_c ?_))

theorem ref29_Fns_c {t1315 : Prog} {t1316 : Plan} {H1 : (List (Int × Int × Int × Int × Int × Int × Unit)) → (ι → O) → O} (g0 : few25 t1315)
    (h1 : ∀ (a0 : List (Int × Int × Int × Int × Int × Int × Unit)), (a0 = fnsV t1315 t1316 t1315.1.length) → T P (H1 a0)) :
    T P (fun K => ref29_Fns t1315 t1316 (fun a0 => H1 a0 K)) := by
  unfold ref29_Fns ref29_Fns.body
  have := rb
  have := g0.1
  repeat' first
    | (intro q; try subst q)
    | ((with_reducible refine h1 _ ?_) <;> try (first | exact Int.le_refl _ | with_reducible rfl | assumption | omega | solve_by_elim [szL_get, szO_f, szO_d, szO_s]))
    | ((with_reducible refine tna ?_ ?_ ?_); omega; omega)
    | ((with_reducible refine tnb ?_ ?_); focus (first | omega | (first | exact Int.le_refl _ | with_reducible rfl | assumption | omega | solve_by_elim [szL_get, szO_f, szO_d, szO_s])))
    | ((with_reducible refine tn ?_ ?_); assumption)
    | with_reducible refine tct ?_
    | with_reducible refine tcf ?_
    | with_reducible refine tcn ?_
    | with_reducible refine tcd ?_ ?_
    | with_reducible refine tce ?_ ?_
    | with_reducible refine tcne ?_ ?_
    | with_reducible refine tc ?_ ?_
    | ((with_reducible refine ref29_Fns_L0_c ?_ ?_ ?_ ?_ ?_ ?_ ?_) <;> try (first | exact Int.le_refl _ | with_reducible rfl | assumption | omega | solve_by_elim [szL_get, szO_f, szO_d, szO_s]))

theorem ref29_Same_L0_c : ∀ {m : Nat} {ts1334 : List (Int × Int × Int × Int × Int × Int × Unit)} {ts1335 : List (Int × Int × Int × Int × Int × Int × Unit)} {n1336 : Int} {H1 : Bool → (ι → O) → O} {H2 : (ι → O) → O} (g0 : 0 ≤ n1336) (g1 : n1336 ≤ (((List.length ts1334) : Nat) : Int)) (g2 : (((List.length ts1334) : Nat) : Int) < n1336 + m) (g3 : ts1334.length ≤ 1000000) (g4 : ts1334 = ts1335)
    (h1 : ∀ (a0 : Bool), (False) → T P (H1 a0))
    (h2 : T P H2),
    T P (fun K => ref29_Same_L0 m ts1334 ts1335 n1336 (fun a0 => H1 a0 K) (H2 K)) := by
  intro m
  induction m with
  | zero => intros; omega
  | succ m ih =>
    intro ts1334 ts1335 n1336 H1 H2 g0 g1 g2 g3 g4 h1 h2
    rw [ref29_Same_L0]
    unfold ref29_Same_L0.body
    have := wr64 ((n1336 + (1 : Int)))
    subst g4
    repeat' first
      | (intro q; try subst q)
      | ((with_reducible refine h1 _ ?_) <;> try (first | contradiction | (simp_all; done) | with_reducible rfl | assumption | omega | solve_by_elim [szL_get, szO_f, szO_d, szO_s]))
      | ((with_reducible refine h2))
      | ((with_reducible refine tna ?_ ?_ ?_); omega; omega)
      | ((with_reducible refine tnb ?_ ?_); focus (first | omega | (first | contradiction | (simp_all; done) | with_reducible rfl | assumption | omega | solve_by_elim [szL_get, szO_f, szO_d, szO_s])))
      | ((with_reducible refine tn ?_ ?_); assumption)
      | with_reducible refine tct ?_
      | with_reducible refine tcf ?_
      | with_reducible refine tcn ?_
      | with_reducible refine tcd ?_ ?_
      | with_reducible refine tce ?_ ?_
      | with_reducible refine tcne ?_ ?_
      | with_reducible refine tc ?_ ?_
      | ((with_reducible refine ih ?_ ?_ ?_ ?_ ?_ h1 h2) <;> try (first | contradiction | (simp_all; done) | with_reducible rfl | assumption | omega | solve_by_elim [szL_get, szO_f, szO_d, szO_s]))

theorem ref29_Same_c {ts1332 : List (Int × Int × Int × Int × Int × Int × Unit)} {ts1333 : List (Int × Int × Int × Int × Int × Int × Unit)} {H1 : Bool → (ι → O) → O} (g0 : ts1332.length ≤ 1000000) (g1 : ts1332 = ts1333)
    (h1 : ∀ (a0 : Bool), (a0 = true) → T P (H1 a0)) :
    T P (fun K => ref29_Same ts1332 ts1333 (fun a0 => H1 a0 K)) := by
  unfold ref29_Same ref29_Same.body
  have := rb
  subst g1
  repeat' first
    | (intro q; try subst q)
    | ((with_reducible refine h1 _ ?_) <;> try (first | contradiction | (exact absurd rfl (by assumption)) | with_reducible rfl | assumption | omega | solve_by_elim [szL_get, szO_f, szO_d, szO_s]))
    | ((with_reducible refine tna ?_ ?_ ?_); omega; omega)
    | ((with_reducible refine tnb ?_ ?_); focus (first | omega | (first | contradiction | (exact absurd rfl (by assumption)) | with_reducible rfl | assumption | omega | solve_by_elim [szL_get, szO_f, szO_d, szO_s])))
    | ((with_reducible refine tn ?_ ?_); assumption)
    | with_reducible refine tct ?_
    | with_reducible refine tcf ?_
    | with_reducible refine tcn ?_
    | with_reducible refine tcd ?_ ?_
    | with_reducible refine tce ?_ ?_
    | with_reducible refine tcne ?_ ?_
    | with_reducible refine tc ?_ ?_
    | ((with_reducible refine ref29_Same_L0_c ?_ ?_ ?_ ?_ ?_ ?_ ?_) <;> try (first | contradiction | (exact absurd rfl (by assumption)) | with_reducible rfl | assumption | omega | solve_by_elim [szL_get, szO_f, szO_d, szO_s]))


theorem known_c {H1 : Bool → (ι → O) → O} (h : T P (H1 true)) : T P (fun K => law29_known (fun b => H1 b K)) := h.eq fun K => rfl
theorem law29_PlaceLess_L0_c : ∀ {m : Nat} {n1348 : Int} {b1349 : Bool} {n1350 : Int} {n1351 : Int} {t1352 : Plan} {l1353 : List Fun_} {l1354 : List Dat_} {n1355 : Int} {ts1356 : List (Int × Int × Int × Int × Int × Int × Unit)} {H1 : Bool → (ι → O) → O} {H2 : Int → Bool → Int → Plan → (List Fun_) → (List Dat_) → Int → (ι → O) → O} (g0 : 0 ≤ n1351) (g1 : n1351 ≤ (((List.length ts1356) : Nat) : Int)) (g2 : (((List.length ts1356) : Nat) : Int) < n1351 + m) (g3 : ts1356.length ≤ 1000000) (g4 : Lk (List.drop (Int.toNat n1351) ts1356) n1350 (startV (l1353, l1354, n1355, ()) t1352 l1353.length))
    (h1 : ∀ (a0 : Bool), (False) → T P (H1 a0))
    (h2 : ∀ (a0 : Int) (a1 : Bool) (a2 : Int) (a3 : Plan) (a4 : List Fun_) (a5 : List Dat_) (a6 : Int), n1348 = a0 → b1349 = a1 → t1352 = a3 → l1353 = a4 → l1354 = a5 → n1355 = a6 → (a2 = startV (l1353, l1354, n1355, ()) t1352 l1353.length) → T P (H2 a0 a1 a2 a3 a4 a5 a6)),
    T P (fun K => law29_PlaceLess_L0 m n1348 b1349 n1350 n1351 t1352 l1353 l1354 n1355 ts1356 (fun a0 => H1 a0 K) (fun a0 a1 a2 a3 a4 a5 a6 => H2 a0 a1 a2 a3 a4 a5 a6 K)) := by
  intro m
  induction m with
  | zero => intros; omega
  | succ m ih =>
    intro n1348 b1349 n1350 n1351 t1352 l1353 l1354 n1355 ts1356 H1 H2 g0 g1 g2 g3 g4 h1 h2
    rw [law29_PlaceLess_L0]
    unfold law29_PlaceLess_L0.body
    have := wr64 ((n1351 + (1 : Int)))
    repeat' first
      | (intro q; try subst q)
      | ((with_reducible refine h1 _ ?_) <;> try (first | exact Lk_end (by assumption) (by omega) | exact Lk_next (by assumption) (by assumption) (by omega) (by omega) | (have hh := Lk_at (d := ((0 : Int), ((0 : Int), ((0 : Int), ((0 : Int), ((0 : Int), ((0 : Int), ()))))))) g4 (by omega) (by omega); obtain ⟨hh1, hh2, hh3, _⟩ := hh; omega) | with_reducible rfl | assumption | omega | solve_by_elim [szL_get, szO_f, szO_d, szO_s]))
      | ((with_reducible refine h2 _ _ _ _ _ _ _ ?_ ?_ ?_ ?_ ?_ ?_ ?_) <;> try (first | exact Lk_end (by assumption) (by omega) | exact Lk_next (by assumption) (by assumption) (by omega) (by omega) | (have hh := Lk_at (d := ((0 : Int), ((0 : Int), ((0 : Int), ((0 : Int), ((0 : Int), ((0 : Int), ()))))))) g4 (by omega) (by omega); obtain ⟨hh1, hh2, hh3, _⟩ := hh; omega) | with_reducible rfl | assumption | omega | solve_by_elim [szL_get, szO_f, szO_d, szO_s]))
      | ((with_reducible refine tna ?_ ?_ ?_); omega; omega)
      | ((with_reducible refine tnb ?_ ?_); focus (first | omega | (first | exact Lk_end (by assumption) (by omega) | exact Lk_next (by assumption) (by assumption) (by omega) (by omega) | (have hh := Lk_at (d := ((0 : Int), ((0 : Int), ((0 : Int), ((0 : Int), ((0 : Int), ((0 : Int), ()))))))) g4 (by omega) (by omega); obtain ⟨hh1, hh2, hh3, _⟩ := hh; omega) | with_reducible rfl | assumption | omega | solve_by_elim [szL_get, szO_f, szO_d, szO_s])))
      | ((with_reducible refine tn ?_ ?_); assumption)
      | with_reducible refine tct ?_
      | with_reducible refine tcf ?_
      | with_reducible refine tcn ?_
      | with_reducible refine tcd ?_ ?_
      | with_reducible refine tce ?_ ?_
      | with_reducible refine tcne ?_ ?_
      | with_reducible refine tc ?_ ?_
      | ((with_reducible refine ih ?_ ?_ ?_ ?_ ?_ h1 h2) <;> try (first | exact Lk_end (by assumption) (by omega) | exact Lk_next (by assumption) (by assumption) (by omega) (by omega) | (have hh := Lk_at (d := ((0 : Int), ((0 : Int), ((0 : Int), ((0 : Int), ((0 : Int), ((0 : Int), ()))))))) g4 (by omega) (by omega); obtain ⟨hh1, hh2, hh3, _⟩ := hh; omega) | with_reducible rfl | assumption | omega | solve_by_elim [szL_get, szO_f, szO_d, szO_s]))

theorem place_laidv2_c {n1373 : Int} {n1374 : Int} {t1375 : Prog} {bs1376 : List Bool} {ns1377 : List Int} {H1 : Prog → (List Bool) → (List Int) → Int → Int → (ι → O) → O} 
    (h1 : ∀ (a0 : Prog) (a1 : List Bool) (a2 : List Int) (a3 : Int) (a4 : Int), t1375 = a0 → bs1376 = a1 → ns1377 = a2 → n1374 = a3 → n1373 = a4 → T P (H1 a0 a1 a2 a3 a4)) :
    T P (fun K => place_laidv2 n1373 n1374 t1375 bs1376 ns1377 (fun a0 a1 a2 a3 a4 => H1 a0 a1 a2 a3 a4 K)) := by
  unfold place_laidv2 place_laidv2.body
  repeat' first
    | (intro q; try subst q)
    | ((with_reducible refine h1 _ _ _ _ _ ?_ ?_ ?_ ?_ ?_) <;> try (first | with_reducible rfl | assumption | omega | solve_by_elim [szL_get, szO_f, szO_d, szO_s]))
    | ((with_reducible refine tna ?_ ?_ ?_); omega; omega)
    | ((with_reducible refine tnb ?_ ?_); focus (first | omega | (first | with_reducible rfl | assumption | omega | solve_by_elim [szL_get, szO_f, szO_d, szO_s])))
    | ((with_reducible refine tn ?_ ?_); assumption)
    | with_reducible refine tct ?_
    | with_reducible refine tcf ?_
    | with_reducible refine tcn ?_
    | with_reducible refine tcd ?_ ?_
    | with_reducible refine tce ?_ ?_
    | with_reducible refine tcne ?_ ?_
    | with_reducible refine tc ?_ ?_

theorem place_funsv1_c {t1370 : Prog} {bs1371 : List Bool} {ns1372 : List Int} {H1 : Int → Int → Prog → (List Bool) → (List Int) → (ι → O) → O} 
    (h1 : ∀ (a0 : Int) (a1 : Int) (a2 : Prog) (a3 : List Bool) (a4 : List Int), t1370 = a2 → bs1371 = a3 → ns1372 = a4 → (a0 = (t1370.1.length : Int)) → (a1 = 2) → T P (H1 a0 a1 a2 a3 a4)) :
    T P (fun K => place_funsv1 t1370 bs1371 ns1372 (fun a0 a1 a2 a3 a4 => H1 a0 a1 a2 a3 a4 K)) := by
  unfold place_funsv1 place_funsv1.body
  repeat' first
    | (intro q; try subst q)
    | ((with_reducible refine h1 _ _ _ _ _ ?_ ?_ ?_ ?_ ?_) <;> try (first | with_reducible rfl | assumption | omega | solve_by_elim [szL_get, szO_f, szO_d, szO_s]))
    | ((with_reducible refine tna ?_ ?_ ?_); omega; omega)
    | ((with_reducible refine tnb ?_ ?_); focus (first | omega | (first | with_reducible rfl | assumption | omega | solve_by_elim [szL_get, szO_f, szO_d, szO_s])))
    | ((with_reducible refine tn ?_ ?_); assumption)
    | with_reducible refine tct ?_
    | with_reducible refine tcf ?_
    | with_reducible refine tcn ?_
    | with_reducible refine tcd ?_ ?_
    | with_reducible refine tce ?_ ?_
    | with_reducible refine tcne ?_ ?_
    | with_reducible refine tc ?_ ?_
    | ((with_reducible refine place_laidv2_c ?_))

theorem prologue_hasv1_c {bs : List Bool} {i : Int} {H1 : Bool → (ι → O) → O} (h1 : ∀ b, (0 ≤ i → b = List.getD bs (Int.toNat i) false) → (i < 0 → b = false) → T P (H1 b)) : T P (fun K => prologue_hasv1 bs i (fun a => H1 a K)) := by
  unfold prologue_hasv1 prologue_hasv1.body
  refine tcd (fun h => tcd (fun h2 => tna (by omega) (by omega) (h1 _ (fun _ => rfl) (fun h => by omega))) (fun h2 => h1 _ (fun _ => (getD_ge (by omega)).symm) (fun _ => rfl))) (fun h => h1 _ (fun h => by omega) (fun _ => rfl))

theorem prologue_Sizev1_c {p : Prog} {bs : List Bool} {ns : List Int} {i : Int} {H1 : Int → (ι → O) → O} (h1 : ∀ n, n = sizeV p (bs, ns, ()) i → T P (H1 n)) : T P (fun K => prologue_Sizev1 p bs ns i (fun a => H1 a K)) := by
  unfold prologue_Sizev1 prologue_Sizev1.body
  refine tcn (tcd (fun h => h1 _ (by unfold sizeV; rw [if_neg (by omega)])) (fun h => prologue_hasv1_c (fun b e1 e2 => tcn (tc (fun hb => ?_) (fun hb => ?_)))))
  · have h0 : 0 ≤ i := by
      by_cases h0 : 0 ≤ i
      · exact h0
      · rw [e2 (by omega)] at hb; cases hb
    rw [e1 h0] at hb
    refine tna (by omega) (by omega) (tcd (fun h2 => tna (by omega) (by omega) (tcne (fun h3 => h1 _ ?_) (fun h3 => h1 _ ?_))) (fun h2 => h1 _ ?_))
    · unfold sizeV; rw [if_pos ⟨h0, by omega, hb⟩, if_pos h3]
    · unfold sizeV; rw [if_pos ⟨h0, by omega, hb⟩, if_neg (fun h => h h3)]
    · unfold sizeV; rw [if_pos ⟨h0, by omega, hb⟩, if_neg (fun h => h (getD_ge (by show ns.length ≤ i.toNat; omega)))]
  · refine h1 _ ?_
    unfold sizeV
    rw [if_neg (fun h => ?_)]
    rw [e1 h.1, h.2.2] at hb
    cases hb

theorem place_funsfn1v1_c {n1401 : Int} {t1402 : Prog} {bs1403 : List Bool} {ns1404 : List Int} {H1 : Int → Prog → (List Bool) → (List Int) → (ι → O) → O} 
    (h1 : ∀ (a0 : Int) (a1 : Prog) (a2 : List Bool) (a3 : List Int), t1402 = a1 → bs1403 = a2 → ns1404 = a3 → (a0 = sizeV t1402 (bs1403, ns1404, ()) n1401) → T P (H1 a0 a1 a2 a3)) :
    T P (fun K => place_funsfn1v1 n1401 t1402 bs1403 ns1404 (fun a0 a1 a2 a3 => H1 a0 a1 a2 a3 K)) := by
  unfold place_funsfn1v1 place_funsfn1v1.body
  repeat' first
    | (intro q; try subst q)
    | ((with_reducible refine h1 _ _ _ _ ?_ ?_ ?_ ?_) <;> try (first | with_reducible rfl | assumption | omega | solve_by_elim [szL_get, szO_f, szO_d, szO_s]))
    | ((with_reducible refine tna ?_ ?_ ?_); omega; omega)
    | ((with_reducible refine tnb ?_ ?_); focus (first | omega | (first | with_reducible rfl | assumption | omega | solve_by_elim [szL_get, szO_f, szO_d, szO_s])))
    | ((with_reducible refine tn ?_ ?_); assumption)
    | with_reducible refine tct ?_
    | with_reducible refine tcf ?_
    | with_reducible refine tcn ?_
    | with_reducible refine tcd ?_ ?_
    | with_reducible refine tce ?_ ?_
    | with_reducible refine tcne ?_ ?_
    | with_reducible refine tc ?_ ?_
    | ((with_reducible refine prologue_Sizev1_c ?_))

theorem place_laidfn1v5_L0_c : ∀ {m : Nat} {n1393 : Int} {n1394 : Int} {n1395 : Int} {n1396 : Int} {t1397 : Prog} {bs1398 : List Bool} {ns1399 : List Int} {ns1400 : List Int} {H1 : Int → Int → Prog → (List Bool) → (List Int) → (List Int) → (ι → O) → O} {H2 : Int → Int → Prog → (List Bool) → (List Int) → (List Int) → (ι → O) → O} (g0 : 0 ≤ n1394) (g1 : n1394 ≤ n1393) (g2 : n1393 ≤ 1000000) (g3 : n1393 < n1394 + m) (g4 : few25 t1397) (g5 : n1393 = (t1397.1.length : Int)) (g6 : n1396 = startV t1397 (bs1398, ns1399, ()) (Int.toNat n1394)) (g7 : ns1400 = mapR (stV t1397 (bs1398, ns1399, ())) n1394) (g8 : (ns1400.length : Int) = n1394)
    (h1 : ∀ (a0 : Int) (a1 : Int) (a2 : Prog) (a3 : List Bool) (a4 : List Int) (a5 : List Int), n1395 = a0 → t1397 = a2 → bs1398 = a3 → ns1399 = a4 → (False) → T P (H1 a0 a1 a2 a3 a4 a5))
    (h2 : ∀ (a0 : Int) (a1 : Int) (a2 : Prog) (a3 : List Bool) (a4 : List Int) (a5 : List Int), n1395 = a0 → t1397 = a2 → bs1398 = a3 → ns1399 = a4 → (a5 = mapR (stV t1397 (bs1398, ns1399, ())) n1393) → T P (H2 a0 a1 a2 a3 a4 a5)),
    T P (fun K => place_laidfn1v5_L0 m n1393 n1394 n1395 n1396 t1397 bs1398 ns1399 ns1400 (fun a0 a1 a2 a3 a4 a5 => H1 a0 a1 a2 a3 a4 a5 K) (fun a0 a1 a2 a3 a4 a5 => H2 a0 a1 a2 a3 a4 a5 K)) := by
  intro m
  induction m with
  | zero => intros; omega
  | succ m ih =>
    intro n1393 n1394 n1395 n1396 t1397 bs1398 ns1399 ns1400 H1 H2 g0 g1 g2 g3 g4 g5 g6 g7 g8 h1 h2
    rw [place_laidfn1v5_L0]
    unfold place_laidfn1v5_L0.body
    have := wr64 ((n1394 + (1 : Int)))
    have := g4.1
    repeat' first
      | (intro q; try subst q)
      | ((with_reducible refine h1 _ _ _ _ _ _ ?_ ?_ ?_ ?_ ?_) <;> try (first | exact start_next (by assumption) (by assumption) (by omega) (by omega) | exact st_next (by assumption) (by assumption) (by assumption) (by omega) (by omega) | exact mapR_nil | contradiction | (simp only [List.length_append, List.length_cons, List.length_nil] <;> omega) | (rw [show n1393 = n1394 from by omega]; assumption) | with_reducible rfl | assumption | omega | solve_by_elim [szL_get, szO_f, szO_d, szO_s]))
      | ((with_reducible refine h2 _ _ _ _ _ _ ?_ ?_ ?_ ?_ ?_) <;> try (first | exact start_next (by assumption) (by assumption) (by omega) (by omega) | exact st_next (by assumption) (by assumption) (by assumption) (by omega) (by omega) | exact mapR_nil | contradiction | (simp only [List.length_append, List.length_cons, List.length_nil] <;> omega) | (rw [show n1393 = n1394 from by omega]; assumption) | with_reducible rfl | assumption | omega | solve_by_elim [szL_get, szO_f, szO_d, szO_s]))
      | ((with_reducible refine tna ?_ ?_ ?_); omega; omega)
      | ((with_reducible refine tnb ?_ ?_); focus (first | omega | (first | exact start_next (by assumption) (by assumption) (by omega) (by omega) | exact st_next (by assumption) (by assumption) (by assumption) (by omega) (by omega) | exact mapR_nil | contradiction | (simp only [List.length_append, List.length_cons, List.length_nil] <;> omega) | (rw [show n1393 = n1394 from by omega]; assumption) | with_reducible rfl | assumption | omega | solve_by_elim [szL_get, szO_f, szO_d, szO_s])))
      | ((with_reducible refine tn ?_ ?_); assumption)
      | with_reducible refine tct ?_
      | with_reducible refine tcf ?_
      | with_reducible refine tcn ?_
      | with_reducible refine tcd ?_ ?_
      | with_reducible refine tce ?_ ?_
      | with_reducible refine tcne ?_ ?_
      | with_reducible refine tc ?_ ?_
      | ((with_reducible refine ih ?_ ?_ ?_ ?_ ?_ ?_ ?_ ?_ ?_ h1 h2) <;> try (first | exact start_next (by assumption) (by assumption) (by omega) (by omega) | exact st_next (by assumption) (by assumption) (by assumption) (by omega) (by omega) | exact mapR_nil | contradiction | (simp only [List.length_append, List.length_cons, List.length_nil] <;> omega) | (rw [show n1393 = n1394 from by omega]; assumption) | with_reducible rfl | assumption | omega | solve_by_elim [szL_get, szO_f, szO_d, szO_s]))
      | ((with_reducible refine place_funsfn1v1_c ?_))
      | ((with_reducible refine place_Starts_round0_c ?_ ?_) <;> try (first | exact start_next (by assumption) (by assumption) (by omega) (by omega) | exact st_next (by assumption) (by assumption) (by assumption) (by omega) (by omega) | exact mapR_nil | contradiction | (simp only [List.length_append, List.length_cons, List.length_nil] <;> omega) | (rw [show n1393 = n1394 from by omega]; assumption) | with_reducible rfl | assumption | omega | solve_by_elim [szL_get, szO_f, szO_d, szO_s]))

theorem place_laidfn1v5_c {n1388 : Int} {n1389 : Int} {t1390 : Prog} {bs1391 : List Bool} {ns1392 : List Int} {H1 : Int → Int → Prog → (List Bool) → (List Int) → (List Int) → (ι → O) → O} (g0 : few25 t1390) (g1 : n1388 = (t1390.1.length : Int)) (g2 : n1389 = 2)
    (h1 : ∀ (a0 : Int) (a1 : Int) (a2 : Prog) (a3 : List Bool) (a4 : List Int) (a5 : List Int), n1388 = a0 → t1390 = a2 → bs1391 = a3 → ns1392 = a4 → (a5 = mapR (stV t1390 (bs1391, ns1392, ())) n1388) → T P (H1 a0 a1 a2 a3 a4 a5)) :
    T P (fun K => place_laidfn1v5 n1388 n1389 t1390 bs1391 ns1392 (fun a0 a1 a2 a3 a4 a5 => H1 a0 a1 a2 a3 a4 a5 K)) := by
  unfold place_laidfn1v5 place_laidfn1v5.body
  have := rb
  have := g0.1
  repeat' first
    | (intro q; try subst q)
    | ((with_reducible refine h1 _ _ _ _ _ _ ?_ ?_ ?_ ?_ ?_) <;> try (first | exact mapR_nil | contradiction | exact List.length_nil ▸ rfl | with_reducible rfl | assumption | omega | solve_by_elim [szL_get, szO_f, szO_d, szO_s]))
    | ((with_reducible refine tna ?_ ?_ ?_); omega; omega)
    | ((with_reducible refine tnb ?_ ?_); focus (first | omega | (first | exact mapR_nil | contradiction | exact List.length_nil ▸ rfl | with_reducible rfl | assumption | omega | solve_by_elim [szL_get, szO_f, szO_d, szO_s])))
    | ((with_reducible refine tn ?_ ?_); assumption)
    | with_reducible refine tct ?_
    | with_reducible refine tcf ?_
    | with_reducible refine tcn ?_
    | with_reducible refine tcd ?_ ?_
    | with_reducible refine tce ?_ ?_
    | with_reducible refine tcne ?_ ?_
    | with_reducible refine tc ?_ ?_
    | ((with_reducible refine place_laidfn1v5_L0_c ?_ ?_ ?_ ?_ ?_ ?_ ?_ ?_ ?_ ?_ ?_) <;> try (first | exact mapR_nil | contradiction | exact List.length_nil ▸ rfl | with_reducible rfl | assumption | omega | solve_by_elim [szL_get, szO_f, szO_d, szO_s]))

theorem place_Startsv1_c {t1367 : Prog} {bs1368 : List Bool} {ns1369 : List Int} {H1 : (List Int) → (ι → O) → O} (g0 : few25 t1367)
    (h1 : ∀ (a0 : List Int), (a0 = mapR (stV t1367 (bs1368, ns1369, ())) (t1367.1.length : Int)) → T P (H1 a0)) :
    T P (fun K => place_Startsv1 t1367 bs1368 ns1369 (fun a0 => H1 a0 K)) := by
  unfold place_Startsv1 place_Startsv1.body
  have := g0.1
  repeat' first
    | (intro q; try subst q)
    | ((with_reducible refine h1 _ ?_) <;> try (first | with_reducible rfl | assumption | omega | solve_by_elim [szL_get, szO_f, szO_d, szO_s]))
    | ((with_reducible refine tna ?_ ?_ ?_); omega; omega)
    | ((with_reducible refine tnb ?_ ?_); focus (first | omega | (first | with_reducible rfl | assumption | omega | solve_by_elim [szL_get, szO_f, szO_d, szO_s])))
    | ((with_reducible refine tn ?_ ?_); assumption)
    | with_reducible refine tct ?_
    | with_reducible refine tcf ?_
    | with_reducible refine tcn ?_
    | with_reducible refine tcd ?_ ?_
    | with_reducible refine tce ?_ ?_
    | with_reducible refine tcne ?_ ?_
    | with_reducible refine tc ?_ ?_
    | ((with_reducible refine place_funsv1_c ?_))
    | ((with_reducible refine place_laidfn1v5_c ?_ ?_ ?_ ?_) <;> try (first | with_reducible rfl | assumption | omega | solve_by_elim [szL_get, szO_f, szO_d, szO_s]))

theorem law29_PlaceLess_L2_c : ∀ {m : Nat} {n1438 : Int} {t1439 : Plan} {l1440 : List Fun_} {l1441 : List Dat_} {n1442 : Int} {bs1443 : List Bool} {ns1444 : List Int} {ns1445 : List Int} {ns1446 : List Int} {H1 : Bool → (ι → O) → O} {H2 : Plan → (List Fun_) → (List Dat_) → Int → (List Bool) → (List Int) → (ι → O) → O} (g0 : 0 ≤ n1438) (g1 : n1438 ≤ (((List.length ns1445) : Nat) : Int)) (g2 : (((List.length ns1445) : Nat) : Int) < n1438 + m) (g3 : l1440.length ≤ 1000000) (g4 : ns1445 = mapR (stV (l1440, l1441, n1442, ()) t1439) (l1440.length : Int)) (g5 : ns1446 = mapR (stV (l1440, l1441, n1442, ()) (bs1443, ns1444, ())) (l1440.length : Int)) (g6 : ∀ k, stV (l1440, l1441, n1442, ()) (bs1443, ns1444, ()) k ≤ stV (l1440, l1441, n1442, ()) t1439 k) (g7 : (ns1445.length : Int) = (l1440.length : Int)) (g8 : (ns1446.length : Int) = (l1440.length : Int))
    (h1 : ∀ (a0 : Bool), (False) → T P (H1 a0))
    (h2 : ∀ (a0 : Plan) (a1 : List Fun_) (a2 : List Dat_) (a3 : Int) (a4 : List Bool) (a5 : List Int), t1439 = a0 → l1440 = a1 → l1441 = a2 → n1442 = a3 → bs1443 = a4 → ns1444 = a5 → T P (H2 a0 a1 a2 a3 a4 a5)),
    T P (fun K => law29_PlaceLess_L2 m n1438 t1439 l1440 l1441 n1442 bs1443 ns1444 ns1445 ns1446 (fun a0 => H1 a0 K) (fun a0 a1 a2 a3 a4 a5 => H2 a0 a1 a2 a3 a4 a5 K)) := by
  intro m
  induction m with
  | zero => intros; omega
  | succ m ih =>
    intro n1438 t1439 l1440 l1441 n1442 bs1443 ns1444 ns1445 ns1446 H1 H2 g0 g1 g2 g3 g4 g5 g6 g7 g8 h1 h2
    rw [law29_PlaceLess_L2]
    unfold law29_PlaceLess_L2.body
    have := wr64 ((n1438 + (1 : Int)))
    repeat' first
      | (intro q; try subst q)
      | ((with_reducible refine h1 _ ?_) <;> try (first | (have ha := mapR_getI g4 (by omega) (by omega : n1438 < (l1440.length : Int)); have hb := mapR_getI g5 (by omega) (by omega : n1438 < (l1440.length : Int)); have hc := g6 (Int.toNat n1438); omega) | with_reducible rfl | assumption | omega | solve_by_elim [szL_get, szO_f, szO_d, szO_s]))
      | ((with_reducible refine h2 _ _ _ _ _ _ ?_ ?_ ?_ ?_ ?_ ?_) <;> try (first | (have ha := mapR_getI g4 (by omega) (by omega : n1438 < (l1440.length : Int)); have hb := mapR_getI g5 (by omega) (by omega : n1438 < (l1440.length : Int)); have hc := g6 (Int.toNat n1438); omega) | with_reducible rfl | assumption | omega | solve_by_elim [szL_get, szO_f, szO_d, szO_s]))
      | ((with_reducible refine tna ?_ ?_ ?_); omega; omega)
      | ((with_reducible refine tnb ?_ ?_); focus (first | omega | (first | (have ha := mapR_getI g4 (by omega) (by omega : n1438 < (l1440.length : Int)); have hb := mapR_getI g5 (by omega) (by omega : n1438 < (l1440.length : Int)); have hc := g6 (Int.toNat n1438); omega) | with_reducible rfl | assumption | omega | solve_by_elim [szL_get, szO_f, szO_d, szO_s])))
      | ((with_reducible refine tn ?_ ?_); assumption)
      | with_reducible refine tct ?_
      | with_reducible refine tcf ?_
      | with_reducible refine tcn ?_
      | with_reducible refine tcd ?_ ?_
      | with_reducible refine tce ?_ ?_
      | with_reducible refine tcne ?_ ?_
      | with_reducible refine tc ?_ ?_
      | ((with_reducible refine ih ?_ ?_ ?_ ?_ ?_ ?_ ?_ ?_ ?_ h1 h2) <;> try (first | (have ha := mapR_getI g4 (by omega) (by omega : n1438 < (l1440.length : Int)); have hb := mapR_getI g5 (by omega) (by omega : n1438 < (l1440.length : Int)); have hc := g6 (Int.toNat n1438); omega) | with_reducible rfl | assumption | omega | solve_by_elim [szL_get, szO_f, szO_d, szO_s]))

theorem place_laidfn1v6_L0_c : ∀ {m : Nat} {n1468 : Int} {n1469 : Int} {n1470 : Int} {n1471 : Int} {n1472 : Int} {t1473 : Prog} {bs1474 : List Bool} {ns1475 : List Int} {H1 : Int → Int → Int → Prog → (List Bool) → (List Int) → (ι → O) → O} {H2 : Int → Int → Int → Prog → (List Bool) → (List Int) → (ι → O) → O} (g0 : 0 ≤ n1469) (g1 : n1469 ≤ n1468) (g2 : n1468 ≤ 1000000) (g3 : n1468 < n1469 + m) (g4 : few25 t1473) (g5 : n1468 = (t1473.1.length : Int)) (g6 : n1470 = startV t1473 (bs1474, ns1475, ()) (Int.toNat n1469)) (g7 : n1472 = startV t1473 (bs1474, ns1475, ()) (Int.toNat n1469))
    (h1 : ∀ (a0 : Int) (a1 : Int) (a2 : Int) (a3 : Prog) (a4 : List Bool) (a5 : List Int), n1471 = a1 → t1473 = a3 → bs1474 = a4 → ns1475 = a5 → (False) → T P (H1 a0 a1 a2 a3 a4 a5))
    (h2 : ∀ (a0 : Int) (a1 : Int) (a2 : Int) (a3 : Prog) (a4 : List Bool) (a5 : List Int), n1471 = a1 → t1473 = a3 → bs1474 = a4 → ns1475 = a5 → (a0 = startV t1473 (bs1474, ns1475, ()) (Int.toNat n1468)) → T P (H2 a0 a1 a2 a3 a4 a5)),
    T P (fun K => place_laidfn1v6_L0 m n1468 n1469 n1470 n1471 n1472 t1473 bs1474 ns1475 (fun a0 a1 a2 a3 a4 a5 => H1 a0 a1 a2 a3 a4 a5 K) (fun a0 a1 a2 a3 a4 a5 => H2 a0 a1 a2 a3 a4 a5 K)) := by
  intro m
  induction m with
  | zero => intros; omega
  | succ m ih =>
    intro n1468 n1469 n1470 n1471 n1472 t1473 bs1474 ns1475 H1 H2 g0 g1 g2 g3 g4 g5 g6 g7 h1 h2
    rw [place_laidfn1v6_L0]
    unfold place_laidfn1v6_L0.body
    have := wr64 ((n1469 + (1 : Int)))
    have := g4.1
    repeat' first
      | (intro q; try subst q)
      | ((with_reducible refine h1 _ _ _ _ _ _ ?_ ?_ ?_ ?_ ?_) <;> try (first | exact start_next (by assumption) (by assumption) (by omega) (by omega) | exact mapR_nil | contradiction | (simp only [List.length_append, List.length_cons, List.length_nil] <;> omega) | (rw [show n1468 = n1469 from by omega]; assumption) | with_reducible rfl | assumption | omega | solve_by_elim [szL_get, szO_f, szO_d, szO_s]))
      | ((with_reducible refine h2 _ _ _ _ _ _ ?_ ?_ ?_ ?_ ?_) <;> try (first | exact start_next (by assumption) (by assumption) (by omega) (by omega) | exact mapR_nil | contradiction | (simp only [List.length_append, List.length_cons, List.length_nil] <;> omega) | (rw [show n1468 = n1469 from by omega]; assumption) | with_reducible rfl | assumption | omega | solve_by_elim [szL_get, szO_f, szO_d, szO_s]))
      | ((with_reducible refine tna ?_ ?_ ?_); omega; omega)
      | ((with_reducible refine tnb ?_ ?_); focus (first | omega | (first | exact start_next (by assumption) (by assumption) (by omega) (by omega) | exact mapR_nil | contradiction | (simp only [List.length_append, List.length_cons, List.length_nil] <;> omega) | (rw [show n1468 = n1469 from by omega]; assumption) | with_reducible rfl | assumption | omega | solve_by_elim [szL_get, szO_f, szO_d, szO_s])))
      | ((with_reducible refine tn ?_ ?_); assumption)
      | with_reducible refine tct ?_
      | with_reducible refine tcf ?_
      | with_reducible refine tcn ?_
      | with_reducible refine tcd ?_ ?_
      | with_reducible refine tce ?_ ?_
      | with_reducible refine tcne ?_ ?_
      | with_reducible refine tc ?_ ?_
      | ((with_reducible refine ih ?_ ?_ ?_ ?_ ?_ ?_ ?_ ?_ h1 h2) <;> try (first | exact start_next (by assumption) (by assumption) (by omega) (by omega) | exact mapR_nil | contradiction | (simp only [List.length_append, List.length_cons, List.length_nil] <;> omega) | (rw [show n1468 = n1469 from by omega]; assumption) | with_reducible rfl | assumption | omega | solve_by_elim [szL_get, szO_f, szO_d, szO_s]))
      | ((with_reducible refine place_funsfn1v1_c ?_))
      | ((with_reducible refine place_Code_round0_c ?_))

theorem place_laidfn1v6_c {n1462 : Int} {n1463 : Int} {n1464 : Int} {t1465 : Prog} {bs1466 : List Bool} {ns1467 : List Int} {H1 : Int → Int → Int → Prog → (List Bool) → (List Int) → (ι → O) → O} (g0 : few25 t1465) (g1 : n1463 = (t1465.1.length : Int)) (g2 : n1462 = 2) (g3 : n1464 = 2)
    (h1 : ∀ (a0 : Int) (a1 : Int) (a2 : Int) (a3 : Prog) (a4 : List Bool) (a5 : List Int), n1463 = a1 → t1465 = a3 → bs1466 = a4 → ns1467 = a5 → (a0 = startV t1465 (bs1466, ns1467, ()) (Int.toNat n1463)) → T P (H1 a0 a1 a2 a3 a4 a5)) :
    T P (fun K => place_laidfn1v6 n1462 n1463 n1464 t1465 bs1466 ns1467 (fun a0 a1 a2 a3 a4 a5 => H1 a0 a1 a2 a3 a4 a5 K)) := by
  unfold place_laidfn1v6 place_laidfn1v6.body
  have := rb
  have := g0.1
  repeat' first
    | (intro q; try subst q)
    | ((with_reducible refine h1 _ _ _ _ _ _ ?_ ?_ ?_ ?_ ?_) <;> try (first | contradiction | with_reducible rfl | assumption | omega | solve_by_elim [szL_get, szO_f, szO_d, szO_s]))
    | ((with_reducible refine tna ?_ ?_ ?_); omega; omega)
    | ((with_reducible refine tnb ?_ ?_); focus (first | omega | (first | contradiction | with_reducible rfl | assumption | omega | solve_by_elim [szL_get, szO_f, szO_d, szO_s])))
    | ((with_reducible refine tn ?_ ?_); assumption)
    | with_reducible refine tct ?_
    | with_reducible refine tcf ?_
    | with_reducible refine tcn ?_
    | with_reducible refine tcd ?_ ?_
    | with_reducible refine tce ?_ ?_
    | with_reducible refine tcne ?_ ?_
    | with_reducible refine tc ?_ ?_
    | ((with_reducible refine place_laidfn1v6_L0_c ?_ ?_ ?_ ?_ ?_ ?_ ?_ ?_ ?_ ?_) <;> try (first | contradiction | with_reducible rfl | assumption | omega | solve_by_elim [szL_get, szO_f, szO_d, szO_s]))

theorem place_Codev1_c {t1454 : Prog} {bs1455 : List Bool} {ns1456 : List Int} {H1 : Int → (ι → O) → O} (g0 : few25 t1454)
    (h1 : ∀ (a0 : Int), (a0 = startV t1454 (bs1455, ns1456, ()) t1454.1.length) → T P (H1 a0)) :
    T P (fun K => place_Codev1 t1454 bs1455 ns1456 (fun a0 => H1 a0 K)) := by
  unfold place_Codev1 place_Codev1.body
  have := g0.1
  repeat' first
    | (intro q; try subst q)
    | ((with_reducible refine h1 _ ?_) <;> try (first | (simp only [Int.toNat_natCast] at *; assumption) | with_reducible rfl | assumption | omega | solve_by_elim [szL_get, szO_f, szO_d, szO_s]))
    | ((with_reducible refine tna ?_ ?_ ?_); omega; omega)
    | ((with_reducible refine tnb ?_ ?_); focus (first | omega | (first | (simp only [Int.toNat_natCast] at *; assumption) | with_reducible rfl | assumption | omega | solve_by_elim [szL_get, szO_f, szO_d, szO_s])))
    | ((with_reducible refine tn ?_ ?_); assumption)
    | with_reducible refine tct ?_
    | with_reducible refine tcf ?_
    | with_reducible refine tcn ?_
    | with_reducible refine tcd ?_ ?_
    | with_reducible refine tce ?_ ?_
    | with_reducible refine tcne ?_ ?_
    | with_reducible refine tc ?_ ?_
    | ((with_reducible refine place_funsv1_c ?_))
    | ((with_reducible refine place_laidfn1v6_c ?_ ?_ ?_ ?_ ?_) <;> try (first | (simp only [Int.toNat_natCast] at *; assumption) | with_reducible rfl | assumption | omega | solve_by_elim [szL_get, szO_f, szO_d, szO_s]))

theorem law29_PlaceLess_c {ts1340 : List Obj} {t1341 : Plan} {n1342 : Int} {b1343 : Bool} {H1 : Bool → (ι → O) → O} (g0 : okLs ts1340)
    (h1 : ∀ (a0 : Bool), (a0 = true) → T P (H1 a0)) :
    T P (fun K => law29_PlaceLess ts1340 t1341 n1342 b1343 (fun a0 => H1 a0 K)) := by
  unfold law29_PlaceLess law29_PlaceLess.body
  have := rb
  repeat' first
    | (intro q; try subst q)
    | (with_reducible refine known_c ?_)
    | ((with_reducible refine h1 _ ?_) <;> try (first | exact ‹true = true → few25 _› rfl | (intro h; contradiction) | contradiction | (exact absurd rfl (by assumption)) | exact mapR_leP (‹true = true → few25 _› rfl).1 | exact mapR_leP (‹true = true → few25 _› rfl).2.1 | exact fnsV_leP (‹true = true → few25 _› rfl) | exact fnsV_R (‹true = true → few25 _› rfl) (by assumption) | exact Lk_fns (‹true = true → few25 _› rfl) | exact stles_c (‹true = true → few25 _› rfl) | exact stles_k (‹true = true → few25 _› rfl) | (rw [mapR_len, Int.toNat_natCast]; done) | (have hz := (‹true = true → few25 _› rfl).1; simp only [mapR_len, Int.toNat_natCast] at *; omega) | exact Nat.le_trans (‹true = true → few25 _› rfl).1 (by decide) | (have hz := ‹true = true → List.length _ ≤ 60 ∧ List.length _ ≤ 60› rfl; omega) | (exfalso; simp only [mapR_len, Int.toNat_natCast, ne_eq, not_true_eq_false] at *; done) | exact absurd (less_c (‹true = true → few25 _› rfl)) (by assumption) | exact absurd (less_k (‹true = true → few25 _› rfl)) (by assumption) | with_reducible rfl | assumption | omega | solve_by_elim [szL_get, szO_f, szO_d, szO_s]))
    | ((with_reducible refine tna ?_ ?_ ?_); omega; omega)
    | ((with_reducible refine tnb ?_ ?_); focus (first | omega | (first | exact ‹true = true → few25 _› rfl | (intro h; contradiction) | contradiction | (exact absurd rfl (by assumption)) | exact mapR_leP (‹true = true → few25 _› rfl).1 | exact mapR_leP (‹true = true → few25 _› rfl).2.1 | exact fnsV_leP (‹true = true → few25 _› rfl) | exact fnsV_R (‹true = true → few25 _› rfl) (by assumption) | exact Lk_fns (‹true = true → few25 _› rfl) | exact stles_c (‹true = true → few25 _› rfl) | exact stles_k (‹true = true → few25 _› rfl) | (rw [mapR_len, Int.toNat_natCast]; done) | (have hz := (‹true = true → few25 _› rfl).1; simp only [mapR_len, Int.toNat_natCast] at *; omega) | exact Nat.le_trans (‹true = true → few25 _› rfl).1 (by decide) | (have hz := ‹true = true → List.length _ ≤ 60 ∧ List.length _ ≤ 60› rfl; omega) | (exfalso; simp only [mapR_len, Int.toNat_natCast, ne_eq, not_true_eq_false] at *; done) | exact absurd (less_c (‹true = true → few25 _› rfl)) (by assumption) | exact absurd (less_k (‹true = true → few25 _› rfl)) (by assumption) | with_reducible rfl | assumption | omega | solve_by_elim [szL_get, szO_f, szO_d, szO_s])))
    | ((with_reducible refine tn ?_ ?_); assumption)
    | with_reducible refine tct ?_
    | with_reducible refine tcf ?_
    | with_reducible refine tcn ?_
    | with_reducible refine tcd ?_ ?_
    | with_reducible refine tce ?_ ?_
    | with_reducible refine tcne ?_ ?_
    | with_reducible refine tc ?_ ?_
    | ((with_reducible refine law29_few_c ?_ ?_) <;> try (first | exact ‹true = true → few25 _› rfl | (intro h; contradiction) | contradiction | (exact absurd rfl (by assumption)) | exact mapR_leP (‹true = true → few25 _› rfl).1 | exact mapR_leP (‹true = true → few25 _› rfl).2.1 | exact fnsV_leP (‹true = true → few25 _› rfl) | exact fnsV_R (‹true = true → few25 _› rfl) (by assumption) | exact Lk_fns (‹true = true → few25 _› rfl) | exact stles_c (‹true = true → few25 _› rfl) | exact stles_k (‹true = true → few25 _› rfl) | (rw [mapR_len, Int.toNat_natCast]; done) | (have hz := (‹true = true → few25 _› rfl).1; simp only [mapR_len, Int.toNat_natCast] at *; omega) | exact Nat.le_trans (‹true = true → few25 _› rfl).1 (by decide) | (have hz := ‹true = true → List.length _ ≤ 60 ∧ List.length _ ≤ 60› rfl; omega) | (exfalso; simp only [mapR_len, Int.toNat_natCast, ne_eq, not_true_eq_false] at *; done) | exact absurd (less_c (‹true = true → few25 _› rfl)) (by assumption) | exact absurd (less_k (‹true = true → few25 _› rfl)) (by assumption) | with_reducible rfl | assumption | omega | solve_by_elim [szL_get, szO_f, szO_d, szO_s]))
    | ((with_reducible refine place_Fns_c ?_ ?_) <;> try (first | exact ‹true = true → few25 _› rfl | (intro h; contradiction) | contradiction | (exact absurd rfl (by assumption)) | exact mapR_leP (‹true = true → few25 _› rfl).1 | exact mapR_leP (‹true = true → few25 _› rfl).2.1 | exact fnsV_leP (‹true = true → few25 _› rfl) | exact fnsV_R (‹true = true → few25 _› rfl) (by assumption) | exact Lk_fns (‹true = true → few25 _› rfl) | exact stles_c (‹true = true → few25 _› rfl) | exact stles_k (‹true = true → few25 _› rfl) | (rw [mapR_len, Int.toNat_natCast]; done) | (have hz := (‹true = true → few25 _› rfl).1; simp only [mapR_len, Int.toNat_natCast] at *; omega) | exact Nat.le_trans (‹true = true → few25 _› rfl).1 (by decide) | (have hz := ‹true = true → List.length _ ≤ 60 ∧ List.length _ ≤ 60› rfl; omega) | (exfalso; simp only [mapR_len, Int.toNat_natCast, ne_eq, not_true_eq_false] at *; done) | exact absurd (less_c (‹true = true → few25 _› rfl)) (by assumption) | exact absurd (less_k (‹true = true → few25 _› rfl)) (by assumption) | with_reducible rfl | assumption | omega | solve_by_elim [szL_get, szO_f, szO_d, szO_s]))
    | ((with_reducible refine place_Code_c ?_ ?_) <;> try (first | exact ‹true = true → few25 _› rfl | (intro h; contradiction) | contradiction | (exact absurd rfl (by assumption)) | exact mapR_leP (‹true = true → few25 _› rfl).1 | exact mapR_leP (‹true = true → few25 _› rfl).2.1 | exact fnsV_leP (‹true = true → few25 _› rfl) | exact fnsV_R (‹true = true → few25 _› rfl) (by assumption) | exact Lk_fns (‹true = true → few25 _› rfl) | exact stles_c (‹true = true → few25 _› rfl) | exact stles_k (‹true = true → few25 _› rfl) | (rw [mapR_len, Int.toNat_natCast]; done) | (have hz := (‹true = true → few25 _› rfl).1; simp only [mapR_len, Int.toNat_natCast] at *; omega) | exact Nat.le_trans (‹true = true → few25 _› rfl).1 (by decide) | (have hz := ‹true = true → List.length _ ≤ 60 ∧ List.length _ ≤ 60› rfl; omega) | (exfalso; simp only [mapR_len, Int.toNat_natCast, ne_eq, not_true_eq_false] at *; done) | exact absurd (less_c (‹true = true → few25 _› rfl)) (by assumption) | exact absurd (less_k (‹true = true → few25 _› rfl)) (by assumption) | with_reducible rfl | assumption | omega | solve_by_elim [szL_get, szO_f, szO_d, szO_s]))
    | ((with_reducible refine place_Starts_c ?_ ?_) <;> try (first | exact ‹true = true → few25 _› rfl | (intro h; contradiction) | contradiction | (exact absurd rfl (by assumption)) | exact mapR_leP (‹true = true → few25 _› rfl).1 | exact mapR_leP (‹true = true → few25 _› rfl).2.1 | exact fnsV_leP (‹true = true → few25 _› rfl) | exact fnsV_R (‹true = true → few25 _› rfl) (by assumption) | exact Lk_fns (‹true = true → few25 _› rfl) | exact stles_c (‹true = true → few25 _› rfl) | exact stles_k (‹true = true → few25 _› rfl) | (rw [mapR_len, Int.toNat_natCast]; done) | (have hz := (‹true = true → few25 _› rfl).1; simp only [mapR_len, Int.toNat_natCast] at *; omega) | exact Nat.le_trans (‹true = true → few25 _› rfl).1 (by decide) | (have hz := ‹true = true → List.length _ ≤ 60 ∧ List.length _ ≤ 60› rfl; omega) | (exfalso; simp only [mapR_len, Int.toNat_natCast, ne_eq, not_true_eq_false] at *; done) | exact absurd (less_c (‹true = true → few25 _› rfl)) (by assumption) | exact absurd (less_k (‹true = true → few25 _› rfl)) (by assumption) | with_reducible rfl | assumption | omega | solve_by_elim [szL_get, szO_f, szO_d, szO_s]))
    | ((with_reducible refine place_Startsv1_c ?_ ?_) <;> try (first | exact ‹true = true → few25 _› rfl | (intro h; contradiction) | contradiction | (exact absurd rfl (by assumption)) | exact mapR_leP (‹true = true → few25 _› rfl).1 | exact mapR_leP (‹true = true → few25 _› rfl).2.1 | exact fnsV_leP (‹true = true → few25 _› rfl) | exact fnsV_R (‹true = true → few25 _› rfl) (by assumption) | exact Lk_fns (‹true = true → few25 _› rfl) | exact stles_c (‹true = true → few25 _› rfl) | exact stles_k (‹true = true → few25 _› rfl) | (rw [mapR_len, Int.toNat_natCast]; done) | (have hz := (‹true = true → few25 _› rfl).1; simp only [mapR_len, Int.toNat_natCast] at *; omega) | exact Nat.le_trans (‹true = true → few25 _› rfl).1 (by decide) | (have hz := ‹true = true → List.length _ ≤ 60 ∧ List.length _ ≤ 60› rfl; omega) | (exfalso; simp only [mapR_len, Int.toNat_natCast, ne_eq, not_true_eq_false] at *; done) | exact absurd (less_c (‹true = true → few25 _› rfl)) (by assumption) | exact absurd (less_k (‹true = true → few25 _› rfl)) (by assumption) | with_reducible rfl | assumption | omega | solve_by_elim [szL_get, szO_f, szO_d, szO_s]))
    | ((with_reducible refine place_Codev1_c ?_ ?_) <;> try (first | exact ‹true = true → few25 _› rfl | (intro h; contradiction) | contradiction | (exact absurd rfl (by assumption)) | exact mapR_leP (‹true = true → few25 _› rfl).1 | exact mapR_leP (‹true = true → few25 _› rfl).2.1 | exact fnsV_leP (‹true = true → few25 _› rfl) | exact fnsV_R (‹true = true → few25 _› rfl) (by assumption) | exact Lk_fns (‹true = true → few25 _› rfl) | exact stles_c (‹true = true → few25 _› rfl) | exact stles_k (‹true = true → few25 _› rfl) | (rw [mapR_len, Int.toNat_natCast]; done) | (have hz := (‹true = true → few25 _› rfl).1; simp only [mapR_len, Int.toNat_natCast] at *; omega) | exact Nat.le_trans (‹true = true → few25 _› rfl).1 (by decide) | (have hz := ‹true = true → List.length _ ≤ 60 ∧ List.length _ ≤ 60› rfl; omega) | (exfalso; simp only [mapR_len, Int.toNat_natCast, ne_eq, not_true_eq_false] at *; done) | exact absurd (less_c (‹true = true → few25 _› rfl)) (by assumption) | exact absurd (less_k (‹true = true → few25 _› rfl)) (by assumption) | with_reducible rfl | assumption | omega | solve_by_elim [szL_get, szO_f, szO_d, szO_s]))
    | ((with_reducible refine law29_PlaceLess_L0_c ?_ ?_ ?_ ?_ ?_ ?_ ?_) <;> try (first | exact ‹true = true → few25 _› rfl | (intro h; contradiction) | contradiction | (exact absurd rfl (by assumption)) | exact mapR_leP (‹true = true → few25 _› rfl).1 | exact mapR_leP (‹true = true → few25 _› rfl).2.1 | exact fnsV_leP (‹true = true → few25 _› rfl) | exact fnsV_R (‹true = true → few25 _› rfl) (by assumption) | exact Lk_fns (‹true = true → few25 _› rfl) | exact stles_c (‹true = true → few25 _› rfl) | exact stles_k (‹true = true → few25 _› rfl) | (rw [mapR_len, Int.toNat_natCast]; done) | (have hz := (‹true = true → few25 _› rfl).1; simp only [mapR_len, Int.toNat_natCast] at *; omega) | exact Nat.le_trans (‹true = true → few25 _› rfl).1 (by decide) | (have hz := ‹true = true → List.length _ ≤ 60 ∧ List.length _ ≤ 60› rfl; omega) | (exfalso; simp only [mapR_len, Int.toNat_natCast, ne_eq, not_true_eq_false] at *; done) | exact absurd (less_c (‹true = true → few25 _› rfl)) (by assumption) | exact absurd (less_k (‹true = true → few25 _› rfl)) (by assumption) | with_reducible rfl | assumption | omega | solve_by_elim [szL_get, szO_f, szO_d, szO_s]))
    | ((with_reducible refine law29_PlaceLess_L2_c ?_ ?_ ?_ ?_ ?_ ?_ ?_ ?_ ?_ ?_ ?_) <;> try (first | exact ‹true = true → few25 _› rfl | (intro h; contradiction) | contradiction | (exact absurd rfl (by assumption)) | exact mapR_leP (‹true = true → few25 _› rfl).1 | exact mapR_leP (‹true = true → few25 _› rfl).2.1 | exact fnsV_leP (‹true = true → few25 _› rfl) | exact fnsV_R (‹true = true → few25 _› rfl) (by assumption) | exact Lk_fns (‹true = true → few25 _› rfl) | exact stles_c (‹true = true → few25 _› rfl) | exact stles_k (‹true = true → few25 _› rfl) | (rw [mapR_len, Int.toNat_natCast]; done) | (have hz := (‹true = true → few25 _› rfl).1; simp only [mapR_len, Int.toNat_natCast] at *; omega) | exact Nat.le_trans (‹true = true → few25 _› rfl).1 (by decide) | (have hz := ‹true = true → List.length _ ≤ 60 ∧ List.length _ ≤ 60› rfl; omega) | (exfalso; simp only [mapR_len, Int.toNat_natCast, ne_eq, not_true_eq_false] at *; done) | exact absurd (less_c (‹true = true → few25 _› rfl)) (by assumption) | exact absurd (less_k (‹true = true → few25 _› rfl)) (by assumption) | with_reducible rfl | assumption | omega | solve_by_elim [szL_get, szO_f, szO_d, szO_s]))




theorem okLs_of {l : List Obj} (h : okD Ty23 l) : okLs l := by
  have h' := okD_sl.1 h
  refine ⟨h'.1, fun o ho => ?_⟩
  have a := okDs_cons.1 (okD_st.1 (h'.2 o ho))
  have b := okDs_cons.1 a.2
  have c := okDs_cons.1 b.2
  exact ⟨(okD_sl.1 a.1).1, (okD_sl.1 b.1).1, (okD_sl.1 c.1).1⟩
theorem holds (l : List Obj) (plan : Plan) (at_ : Int) (check : Bool) (h0 : okD Ty23 l) (h1 : okD Ty6 plan) (h2 : okD (.int .i64) at_) (h3 : okD .bool check) : law29_PlaceLess l plan at_ check (fun y => some y) = some true :=
  (law29_PlaceLess_c (ι := Bool) (P := fun b => b = true) (H1 := fun a K => K a) (okLs_of h0) (fun a h => T.leaf h)).use (K := fun y => some y) (fun i hi => congrArg some hi)

end Go.Proofs.Ytdkgfadnhnbipaa.placeLess
