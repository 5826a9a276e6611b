/- What the plain functions answer: the law, without program or memory. -/
import Derived.Test.YthjiokfjckcomaaPureTableFinds1
namespace Go.Proofs.Ythjiokfjckcomaa.tableFinds
open Go.AX Go.Proofs.Ythjiokfjckcomaa.p
set_option linter.unusedVariables false
set_option linter.unusedSimpArgs false
attribute [local congr] cond_congr
variable {ι : Type} {P : ι → Prop}
attribute [local irreducible] ROUNDS ref19_Few_L0 ref16_Few ref19_Few_L2 ref15_Few ref19_Few_L4 ref19_Few ref24_Few_L0 ref24_Few ref04_may ref04_Check_L0 ref04_Check ref05_Is ref05_Class ref01_Digits_L0 ref01_Digits ref05_Text ref19_symbol_L0 ref19_symbol_L2 ref19_symbol ref19_Check_L0 ref19_Items ref19_defines ref19_Definer_L0 ref19_Definer ref15_Check_L0 ref15_Check_L2 ref15_Check ref05_Params ref16_slots_L0 ref16_slots ref07_names ref07_Name ref07_Ends ref14_Next ref14_Check_L0_L2 ref14_Check_L0 ref14_Check ref08_Operand ref08_Check_L0 ref07_Shape ref08_Check_L2 ref08_Check ref07_Own ref16_code_L0 ref16_code ref16_lines_L0 ref16_lines ref16_Check_L0 ref16_Check ref07_Need ref17_has_L0 ref17_has ref17_Sym_L0 ref17_Sym ref17_fits ref17_refers ref05_Later ref17_slot ref05_Answers ref17_called_L0 ref17_called ref17_perhaps ref17_operand ref17_Instr_L0 ref17_Instr ref17_Check_L0 ref17_Check ref18_Marks_L0 ref18_Marks ref14_After_L0 ref14_Graph_L0 ref14_Graph ref10_Reach_L0 ref10_Reach_L2_L4_L6 ref10_Reach_L2_L4 ref10_Reach_L2 ref10_Reach ref14_After ref18_In ref18_Check_L0 ref18_Check ref19_item ref19_Check_L2 ref19_Check ref24_Bind_L0 ref23_global ref23_Find_L0_L2 ref23_Find_L0 ref23_Find ref23_Twice_L0_L2 ref23_Twice_L0 ref23_Twice ref23_Bound ref23_Check_L0_L2 ref23_Check_L0 ref23_Check ref24_program_L0_L2_L4 ref24_name ref24_number_L0 ref24_number ref24_bound_L0 ref24_bound ref24_program_L0_L2 ref15_Marks_L0_L2 ref15_Marks_L0 ref15_Marks ref15_Refs_L0 ref15_Refs ref24_program_L0_L6 ref24_program_L0 ref24_program ref24_Bind ref25_Few_L0 ref25_Few_L2 ref25_Few table_Sourcefn1 slices_IndexFunc_api_Fn_api_Fn_L0 slices_IndexFunc_api_Fn_api_Fn table_Source ref33_Source_L0 ref33_Source table_rows table_Rows_round0 table_Rows_round0v1 prologue_has prologue_Size table_rowsfn1_L0_L2 num_Near fun_Frame ranges_In fun_Line_L0 fun_Line table_rowsfn1_L0_L4 table_rowsfn1_L0 table_rowsfn1 table_Rows ref28_Kept ref28_Check ref28_Size ref33_Rows_L0_L2 ref01_Near ref16_Frame ref16_Line_L0 ref16_Line ref33_Rows_L0_L4 ref33_Rows_L0 ref33_Rows ref13_SameRows_L0 ref13_SameRows runs_Make_L0 runs_Make table_Make ref13_Make_L0 ref13_Make ref33_Make ref13_Same_L0 ref13_Same ref29_start_L0 ref29_start ref29_Fns_L0 ref29_Fns ref29_Code ref13_At_L0 ref13_At slices_IndexFunc_api_Fn_api_Fnv1_L0 slices_IndexFunc_api_Fn_api_Fnv1 table_Sourcev1 ref24_Fun_L0 ref24_Fun law33_TableFinds_L0
theorem ref23_global_c {t649 : Sym} {H1 : Bool → (ι → O) → O} 
    (h1 : ∀ (a0 : Bool), T P (H1 a0)) :
    T P (fun K => ref23_global t649 (fun a0 => H1 a0 K)) := by
  unfold ref23_global ref23_global.body
  repeat' first
    | (intro q; try subst q)
    | ((with_reducible refine h1 _))
    | ((with_reducible refine tna ?_ ?_ ?_); omega; omega)
    | ((with_reducible refine tnb ?_ ?_); focus (first | omega | (first | with_reducible rfl | assumption | omega | solve_by_elim [szL_get, szO_f, szO_d, szO_s])))
    | ((with_reducible refine tn ?_ ?_); assumption)
    | with_reducible refine tct ?_
    | with_reducible refine tcf ?_
    | with_reducible refine tcn ?_
    | with_reducible refine tcd ?_ ?_
    | with_reducible refine tce ?_ ?_
    | with_reducible refine tcne ?_ ?_
    | with_reducible refine tc ?_ ?_

theorem ref23_Find_L0_L2_c : ∀ {m : Nat} {ts645 : List Obj} {s646 : ByteArray} {n647 : Int} {n648 : Int} {H1 : Int → Int → Bool → (ι → O) → O} {H2 : (List Obj) → ByteArray → Int → (ι → O) → O} (g0 : szL ts645) (g1 : s646.size ≤ 100000) (g2 : 0 ≤ n648) (g3 : n648 ≤ (((List.length (List.getD ts645 (Int.toNat n647) ([], ([], ([], ())))).1) : Nat) : Int)) (g4 : (((List.length (List.getD ts645 (Int.toNat n647) ([], ([], ([], ())))).1) : Nat) : Int) < n648 + m) (g5 : 0 ≤ n647) (g6 : n647 < (ts645.length : Int))
    (h1 : ∀ (a0 : Int) (a1 : Int) (a2 : Bool), n647 = a0 → (valid ts645 a0 a1) → T P (H1 a0 a1 a2))
    (h2 : ∀ (a0 : List Obj) (a1 : ByteArray) (a2 : Int), ts645 = a0 → s646 = a1 → n647 = a2 → T P (H2 a0 a1 a2)),
    T P (fun K => ref23_Find_L0_L2 m ts645 s646 n647 n648 (fun a0 a1 a2 => H1 a0 a1 a2 K) (fun a0 a1 a2 => H2 a0 a1 a2 K)) := by
  intro m
  induction m with
  | zero => intros; omega
  | succ m ih =>
    intro ts645 s646 n647 n648 H1 H2 g0 g1 g2 g3 g4 g5 g6 h1 h2
    rw [ref23_Find_L0_L2]
    unfold ref23_Find_L0_L2.body
    have z0_n647 := szL_get (i := Int.toNat n647) g0
    obtain ⟨_, _, _, _, _, _⟩ := z0_n647
    have z0 := szL_len g0
    have := wr64 ((n648 + (1 : Int)))
    repeat' first
      | (intro q; try subst q)
      | ((with_reducible refine h1 _ _ _ ?_ ?_) <;> try (first | (exact ⟨by omega, by omega, by omega, by omega⟩) | with_reducible rfl | assumption | omega | solve_by_elim [szL_get, szO_f, szO_d, szO_s]))
      | ((with_reducible refine h2 _ _ _ ?_ ?_ ?_) <;> try (first | (exact ⟨by omega, by omega, by omega, by omega⟩) | with_reducible rfl | assumption | omega | solve_by_elim [szL_get, szO_f, szO_d, szO_s]))
      | ((with_reducible refine tna ?_ ?_ ?_); omega; omega)
      | ((with_reducible refine tnb ?_ ?_); focus (first | omega | (first | (exact ⟨by omega, by omega, by omega, by omega⟩) | with_reducible rfl | assumption | omega | solve_by_elim [szL_get, szO_f, szO_d, szO_s])))
      | ((with_reducible refine tn ?_ ?_); assumption)
      | with_reducible refine tct ?_
      | with_reducible refine tcf ?_
      | with_reducible refine tcn ?_
      | with_reducible refine tcd ?_ ?_
      | with_reducible refine tce ?_ ?_
      | with_reducible refine tcne ?_ ?_
      | with_reducible refine tc ?_ ?_
      | ((with_reducible refine ih ?_ ?_ ?_ ?_ ?_ ?_ ?_ h1 h2) <;> try (first | (exact ⟨by omega, by omega, by omega, by omega⟩) | with_reducible rfl | assumption | omega | solve_by_elim [szL_get, szO_f, szO_d, szO_s]))
      | ((with_reducible refine ref23_global_c ?_))

theorem ref23_Find_L0_c : ∀ {m : Nat} {ts642 : List Obj} {s643 : ByteArray} {n644 : Int} {H1 : Int → Int → Bool → (ι → O) → O} {H2 : (ι → O) → O} (g0 : szL ts642) (g1 : s643.size ≤ 100000) (g2 : 0 ≤ n644) (g3 : n644 ≤ (((List.length ts642) : Nat) : Int)) (g4 : (((List.length ts642) : Nat) : Int) < n644 + m)
    (h1 : ∀ (a0 : Int) (a1 : Int) (a2 : Bool), (valid ts642 a0 a1) → T P (H1 a0 a1 a2))
    (h2 : T P H2),
    T P (fun K => ref23_Find_L0 m ts642 s643 n644 (fun a0 a1 a2 => H1 a0 a1 a2 K) (H2 K)) := by
  intro m
  induction m with
  | zero => intros; omega
  | succ m ih =>
    intro ts642 s643 n644 H1 H2 g0 g1 g2 g3 g4 h1 h2
    rw [ref23_Find_L0]
    unfold ref23_Find_L0.body
    have z0 := szL_len g0
    have := wr64 ((n644 + (1 : Int)))
    have := rb
    have hz := szL_get (i := Int.toNat n644) g0
    obtain ⟨_, _, _, _, _, _⟩ := hz
    repeat' first
      | (intro q; try subst q)
      | ((with_reducible refine h1 _ _ _ ?_) <;> try (first | with_reducible rfl | assumption | omega | solve_by_elim [szL_get, szO_f, szO_d, szO_s]))
      | ((with_reducible refine h2))
      | ((with_reducible refine tna ?_ ?_ ?_); omega; omega)
      | ((with_reducible refine tnb ?_ ?_); focus (first | omega | (first | with_reducible rfl | assumption | omega | solve_by_elim [szL_get, szO_f, szO_d, szO_s])))
      | ((with_reducible refine tn ?_ ?_); assumption)
      | with_reducible refine tct ?_
      | with_reducible refine tcf ?_
      | with_reducible refine tcn ?_
      | with_reducible refine tcd ?_ ?_
      | with_reducible refine tce ?_ ?_
      | with_reducible refine tcne ?_ ?_
      | with_reducible refine tc ?_ ?_
      | ((with_reducible refine ih ?_ ?_ ?_ ?_ ?_ h1 h2) <;> try (first | with_reducible rfl | assumption | omega | solve_by_elim [szL_get, szO_f, szO_d, szO_s]))
      | ((with_reducible refine ref23_Find_L0_L2_c ?_ ?_ ?_ ?_ ?_ ?_ ?_ ?_ ?_) <;> try (first | with_reducible rfl | assumption | omega | solve_by_elim [szL_get, szO_f, szO_d, szO_s]))

theorem ref23_Find_c {ts640 : List Obj} {s641 : ByteArray} {H1 : Int → Int → Bool → (ι → O) → O} (g0 : szL ts640) (g1 : s641.size ≤ 100000)
    (h1 : ∀ (a0 : Int) (a1 : Int) (a2 : Bool), (a2 = true → valid ts640 a0 a1) → T P (H1 a0 a1 a2)) :
    T P (fun K => ref23_Find ts640 s641 (fun a0 a1 a2 => H1 a0 a1 a2 K)) := by
  unfold ref23_Find ref23_Find.body
  have z0 := szL_len g0
  have := rb
  repeat' first
    | (intro q; try subst q)
    | ((with_reducible refine h1 _ _ _ ?_) <;> try (first | (intro _; assumption) | (intro hq; contradiction) | with_reducible rfl | assumption | omega | solve_by_elim [szL_get, szO_f, szO_d, szO_s]))
    | ((with_reducible refine tna ?_ ?_ ?_); omega; omega)
    | ((with_reducible refine tnb ?_ ?_); focus (first | omega | (first | (intro _; assumption) | (intro hq; contradiction) | with_reducible rfl | assumption | omega | solve_by_elim [szL_get, szO_f, szO_d, szO_s])))
    | ((with_reducible refine tn ?_ ?_); assumption)
    | with_reducible refine tct ?_
    | with_reducible refine tcf ?_
    | with_reducible refine tcn ?_
    | with_reducible refine tcd ?_ ?_
    | with_reducible refine tce ?_ ?_
    | with_reducible refine tcne ?_ ?_
    | with_reducible refine tc ?_ ?_
    | ((with_reducible refine ref23_Find_L0_c ?_ ?_ ?_ ?_ ?_ ?_ ?_) <;> try (first | (intro _; assumption) | (intro hq; contradiction) | with_reducible rfl | assumption | omega | solve_by_elim [szL_get, szO_f, szO_d, szO_s]))

theorem ref23_Twice_L0_L2_c : ∀ {m : Nat} {ts636 : List Obj} {n637 : Int} {n638 : Int} {t639 : Int × Int × Int × Unit} {H1 : Bool → (Int × Int × Int × Unit) → (ι → O) → O} {H2 : (List Obj) → Int → (Int × Int × Int × Unit) → (ι → O) → O} (g0 : szL ts636) (g1 : 0 ≤ n638) (g2 : n638 ≤ (((List.length (List.getD ts636 (Int.toNat n637) ([], ([], ([], ())))).1) : Nat) : Int)) (g3 : (((List.length (List.getD ts636 (Int.toNat n637) ([], ([], ([], ())))).1) : Nat) : Int) < n638 + m) (g4 : 0 ≤ n637) (g5 : n637 < (ts636.length : Int))
    (h1 : ∀ (a0 : Bool) (a1 : Int × Int × Int × Unit), (a1.1 ≠ 0) → T P (H1 a0 a1))
    (h2 : ∀ (a0 : List Obj) (a1 : Int) (a2 : Int × Int × Int × Unit), ts636 = a0 → n637 = a1 → t639 = a2 → T P (H2 a0 a1 a2)),
    T P (fun K => ref23_Twice_L0_L2 m ts636 n637 n638 t639 (fun a0 a1 => H1 a0 a1 K) (fun a0 a1 a2 => H2 a0 a1 a2 K)) := by
  intro m
  induction m with
  | zero => intros; omega
  | succ m ih =>
    intro ts636 n637 n638 t639 H1 H2 g0 g1 g2 g3 g4 g5 h1 h2
    rw [ref23_Twice_L0_L2]
    unfold ref23_Twice_L0_L2.body
    have z0_n637 := szL_get (i := Int.toNat n637) g0
    obtain ⟨_, _, _, _, _, _⟩ := z0_n637
    have z0 := szL_len g0
    have := wr64 ((n638 + (1 : Int)))
    repeat' first
      | (intro q; try subst q)
      | ((with_reducible refine h1 _ _ ?_) <;> try (first | (simp; done) | with_reducible rfl | assumption | omega | solve_by_elim [szL_get, szO_f, szO_d, szO_s]))
      | ((with_reducible refine h2 _ _ _ ?_ ?_ ?_) <;> try (first | (simp; done) | with_reducible rfl | assumption | omega | solve_by_elim [szL_get, szO_f, szO_d, szO_s]))
      | ((with_reducible refine tna ?_ ?_ ?_); omega; omega)
      | ((with_reducible refine tnb ?_ ?_); focus (first | omega | (first | (simp; done) | with_reducible rfl | assumption | omega | solve_by_elim [szL_get, szO_f, szO_d, szO_s])))
      | ((with_reducible refine tn ?_ ?_); assumption)
      | with_reducible refine tct ?_
      | with_reducible refine tcf ?_
      | with_reducible refine tcn ?_
      | with_reducible refine tcd ?_ ?_
      | with_reducible refine tce ?_ ?_
      | with_reducible refine tcne ?_ ?_
      | with_reducible refine tc ?_ ?_
      | ((with_reducible refine ih ?_ ?_ ?_ ?_ ?_ ?_ h1 h2) <;> try (first | (simp; done) | with_reducible rfl | assumption | omega | solve_by_elim [szL_get, szO_f, szO_d, szO_s]))
      | ((with_reducible refine ref23_Find_c ?_ ?_ ?_) <;> try (first | (simp; done) | with_reducible rfl | assumption | omega | solve_by_elim [szL_get, szO_f, szO_d, szO_s]))
      | ((with_reducible refine ref23_global_c ?_))

theorem ref23_Twice_L0_c : ∀ {m : Nat} {ts633 : List Obj} {n634 : Int} {t635 : Int × Int × Int × Unit} {H1 : Bool → (Int × Int × Int × Unit) → (ι → O) → O} {H2 : (Int × Int × Int × Unit) → (ι → O) → O} (g0 : szL ts633) (g1 : 0 ≤ n634) (g2 : n634 ≤ (((List.length ts633) : Nat) : Int)) (g3 : (((List.length ts633) : Nat) : Int) < n634 + m)
    (h1 : ∀ (a0 : Bool) (a1 : Int × Int × Int × Unit), (a1.1 ≠ 0) → T P (H1 a0 a1))
    (h2 : ∀ (a0 : Int × Int × Int × Unit), t635 = a0 → T P (H2 a0)),
    T P (fun K => ref23_Twice_L0 m ts633 n634 t635 (fun a0 a1 => H1 a0 a1 K) (fun a0 => H2 a0 K)) := by
  intro m
  induction m with
  | zero => intros; omega
  | succ m ih =>
    intro ts633 n634 t635 H1 H2 g0 g1 g2 g3 h1 h2
    rw [ref23_Twice_L0]
    unfold ref23_Twice_L0.body
    have z0 := szL_len g0
    have := wr64 ((n634 + (1 : Int)))
    have := rb
    have hz := szL_get (i := Int.toNat n634) g0
    obtain ⟨_, _, _, _, _, _⟩ := hz
    repeat' first
      | (intro q; try subst q)
      | ((with_reducible refine h1 _ _ ?_) <;> try (first | with_reducible rfl | assumption | omega | solve_by_elim [szL_get, szO_f, szO_d, szO_s]))
      | ((with_reducible refine h2 _ ?_) <;> try (first | with_reducible rfl | assumption | omega | solve_by_elim [szL_get, szO_f, szO_d, szO_s]))
      | ((with_reducible refine tna ?_ ?_ ?_); omega; omega)
      | ((with_reducible refine tnb ?_ ?_); focus (first | omega | (first | with_reducible rfl | assumption | omega | solve_by_elim [szL_get, szO_f, szO_d, szO_s])))
      | ((with_reducible refine tn ?_ ?_); assumption)
      | with_reducible refine tct ?_
      | with_reducible refine tcf ?_
      | with_reducible refine tcn ?_
      | with_reducible refine tcd ?_ ?_
      | with_reducible refine tce ?_ ?_
      | with_reducible refine tcne ?_ ?_
      | with_reducible refine tc ?_ ?_
      | ((with_reducible refine ih ?_ ?_ ?_ ?_ h1 h2) <;> try (first | with_reducible rfl | assumption | omega | solve_by_elim [szL_get, szO_f, szO_d, szO_s]))
      | ((with_reducible refine ref23_Twice_L0_L2_c ?_ ?_ ?_ ?_ ?_ ?_ ?_ ?_) <;> try (first | with_reducible rfl | assumption | omega | solve_by_elim [szL_get, szO_f, szO_d, szO_s]))

theorem ref23_Twice_c {ts632 : List Obj} {H1 : (Int × Int × Int × Unit) → Bool → (ι → O) → O} (g0 : szL ts632)
    (h1 : ∀ (a0 : Int × Int × Int × Unit) (a1 : Bool), (a1 = true → a0.1 ≠ 0) → T P (H1 a0 a1)) :
    T P (fun K => ref23_Twice ts632 (fun a0 a1 => H1 a0 a1 K)) := by
  unfold ref23_Twice ref23_Twice.body
  have z0 := szL_len g0
  have := rb
  repeat' first
    | (intro q; try subst q)
    | ((with_reducible refine h1 _ _ ?_) <;> try (first | (intro _; assumption) | (intro hq; contradiction) | with_reducible rfl | assumption | omega | solve_by_elim [szL_get, szO_f, szO_d, szO_s]))
    | ((with_reducible refine tna ?_ ?_ ?_); omega; omega)
    | ((with_reducible refine tnb ?_ ?_); focus (first | omega | (first | (intro _; assumption) | (intro hq; contradiction) | with_reducible rfl | assumption | omega | solve_by_elim [szL_get, szO_f, szO_d, szO_s])))
    | ((with_reducible refine tn ?_ ?_); assumption)
    | with_reducible refine tct ?_
    | with_reducible refine tcf ?_
    | with_reducible refine tcn ?_
    | with_reducible refine tcd ?_ ?_
    | with_reducible refine tce ?_ ?_
    | with_reducible refine tcne ?_ ?_
    | with_reducible refine tc ?_ ?_
    | ((with_reducible refine ref23_Twice_L0_c ?_ ?_ ?_ ?_ ?_ ?_) <;> try (first | (intro _; assumption) | (intro hq; contradiction) | with_reducible rfl | assumption | omega | solve_by_elim [szL_get, szO_f, szO_d, szO_s]))

theorem ref23_Bound_c {ts : List Obj} {i j : Int} {H1 : Int → Int → Int → (ι → O) → O} (hL : szL ts) (h1 : ∀ a b, valid ts a b → T P (H1 a b 0)) (h0 : ∀ e : Int, e ≠ 0 → T P (H1 0 0 e)) : T P (fun K => ref23_Bound ts i j (fun a b c => H1 a b c K)) := by
  unfold ref23_Bound ref23_Bound.body
  refine tcn (tcd (fun _ => h0 _ (by decide)) (fun hi => ?_))
  refine tcn (tcd (fun _ => h0 _ (by decide)) (fun hi2 => ?_))
  refine tcn (tcd (fun _ => h0 _ (by decide)) (fun hj => ?_))
  refine tna (by omega) (by omega) ?_
  refine tcd (fun _ => h0 _ (by decide)) (fun hj2 => ?_)
  refine tna (by omega) (by omega) (tna (by omega) (by omega) ?_)
  refine tcne (fun _ => h1 _ _ ⟨by omega, by omega, by omega, by omega⟩) (fun _ => ?_)
  refine ref23_Find_c hL (szO_s (szL_get hL)) (fun a b c hv => tcn (tc (fun hc => ?_) (fun _ => h0 _ (by decide))))
  obtain ⟨v1, v2, v3, v4⟩ := hv hc
  exact tna (by omega) (by omega) (tna (by omega) (by omega) (tcn (tcne (fun _ => h0 _ (by decide)) (fun _ => tcne (fun _ => h0 _ (by decide)) (fun _ => h1 _ _ ⟨v1, v2, v3, v4⟩)))))
theorem Bound_d {ts : List Obj} {i j : Int} {H1 : Int → Int → Int → (ι → O) → O} (hL : szL ts) (h1 : ∀ a b, valid ts a b → BoundOk ts i j → T P (H1 a b 0)) (h0 : ∀ e : Int, e ≠ 0 → T P (H1 0 0 e)) : T P (fun K => ref23_Bound ts i j (fun a b c => H1 a b c K)) := by
  obtain ⟨⟨a, b, c⟩, hp, e⟩ := ref23_Bound_c (ι := Int × Int × Int) (P := fun x => (x.2.2 = 0 ∧ valid ts x.1 x.2.1) ∨ (x.1 = 0 ∧ x.2.1 = 0 ∧ x.2.2 ≠ 0)) (i := i) (j := j) (H1 := fun a b c K => K (a, b, c)) hL (fun a b hv => T.leaf (.inl ⟨rfl, hv⟩)) (fun e he => T.leaf (.inr ⟨rfl, rfl, he⟩))
  have e' : ∀ K : Int → Int → Int → O, ref23_Bound ts i j K = K a b c := fun K => e (fun x => K x.1 x.2.1 x.2.2)
  rcases hp with ⟨rfl, hv⟩ | ⟨h2, h3, h4⟩
  · exact (h1 a b hv ⟨a, b, hv, e'⟩).eq (fun K => e' _)
  · simp only at h2 h3 h4
    subst h2; subst h3
    exact (h0 c h4).eq (fun K => e' _)

theorem ref23_Check_L0_L2_c : ∀ {m : Nat} {ts677 : List Obj} {n678 : Int} {n679 : Int} {t680 : Int × Int × Int × Unit} {H1 : (Int × Int × Int × Unit) → (ι → O) → O} {H2 : (List Obj) → Int → (Int × Int × Int × Unit) → (ι → O) → O} (g0 : szL ts677) (g1 : 0 ≤ n679) (g2 : n679 ≤ (((List.length (List.getD ts677 (Int.toNat n678) ([], ([], ([], ())))).1) : Nat) : Int)) (g3 : (((List.length (List.getD ts677 (Int.toNat n678) ([], ([], ([], ())))).1) : Nat) : Int) < n679 + m) (g4 : 0 ≤ n678) (g5 : n678 < (ts677.length : Int)) (g6 : ∀ j : Int, 0 ≤ j → j < n679 → BoundOk ts677 n678 j)
    (h1 : ∀ (a0 : Int × Int × Int × Unit), (a0.1 ≠ 0) → T P (H1 a0))
    (h2 : ∀ (a0 : List Obj) (a1 : Int) (a2 : Int × Int × Int × Unit), ts677 = a0 → n678 = a1 → t680 = a2 → (fileOk ts677 n678) → T P (H2 a0 a1 a2)),
    T P (fun K => ref23_Check_L0_L2 m ts677 n678 n679 t680 (fun a0 => H1 a0 K) (fun a0 a1 a2 => H2 a0 a1 a2 K)) := by
  intro m
  induction m with
  | zero => intros; omega
  | succ m ih =>
    intro ts677 n678 n679 t680 H1 H2 g0 g1 g2 g3 g4 g5 g6 h1 h2
    rw [ref23_Check_L0_L2]
    unfold ref23_Check_L0_L2.body
    have z0_n678 := szL_get (i := Int.toNat n678) g0
    obtain ⟨_, _, _, _, _, _⟩ := z0_n678
    have z0 := szL_len g0
    have := wr64 ((n679 + (1 : Int)))
    repeat' first
      | (intro q; try subst q)
      | ((with_reducible refine h1 _ ?_) <;> try (first | (intro j hj1 hj2; first | exact g6 j hj1 (by omega) | (by_cases hj : j < n679; exact g6 j hj1 hj; obtain rfl : j = n679 := (by omega); first | assumption | omega)) | contradiction | with_reducible rfl | assumption | omega | solve_by_elim [szL_get, szO_f, szO_d, szO_s]))
      | ((with_reducible refine h2 _ _ _ ?_ ?_ ?_ ?_) <;> try (first | (intro j hj1 hj2; first | exact g6 j hj1 (by omega) | (by_cases hj : j < n679; exact g6 j hj1 hj; obtain rfl : j = n679 := (by omega); first | assumption | omega)) | contradiction | with_reducible rfl | assumption | omega | solve_by_elim [szL_get, szO_f, szO_d, szO_s]))
      | ((with_reducible refine tna ?_ ?_ ?_); omega; omega)
      | ((with_reducible refine tnb ?_ ?_); focus (first | omega | (first | (intro j hj1 hj2; first | exact g6 j hj1 (by omega) | (by_cases hj : j < n679; exact g6 j hj1 hj; obtain rfl : j = n679 := (by omega); first | assumption | omega)) | contradiction | with_reducible rfl | assumption | omega | solve_by_elim [szL_get, szO_f, szO_d, szO_s])))
      | ((with_reducible refine tn ?_ ?_); assumption)
      | with_reducible refine tct ?_
      | with_reducible refine tcf ?_
      | with_reducible refine tcn ?_
      | with_reducible refine tcd ?_ ?_
      | with_reducible refine tce ?_ ?_
      | with_reducible refine tcne ?_ ?_
      | with_reducible refine tc ?_ ?_
      | ((with_reducible refine ih ?_ ?_ ?_ ?_ ?_ ?_ ?_ h1 h2) <;> try (first | (intro j hj1 hj2; first | exact g6 j hj1 (by omega) | (by_cases hj : j < n679; exact g6 j hj1 hj; obtain rfl : j = n679 := (by omega); first | assumption | omega)) | contradiction | with_reducible rfl | assumption | omega | solve_by_elim [szL_get, szO_f, szO_d, szO_s]))
      | ((with_reducible refine Bound_d ?_ ?_ ?_) <;> try (first | (intro j hj1 hj2; first | exact g6 j hj1 (by omega) | (by_cases hj : j < n679; exact g6 j hj1 hj; obtain rfl : j = n679 := (by omega); first | assumption | omega)) | contradiction | with_reducible rfl | assumption | omega | solve_by_elim [szL_get, szO_f, szO_d, szO_s]))

theorem ref23_Check_L0_c : ∀ {m : Nat} {ts674 : List Obj} {n675 : Int} {t676 : Int × Int × Int × Unit} {H1 : (Int × Int × Int × Unit) → (ι → O) → O} {H2 : (Int × Int × Int × Unit) → (ι → O) → O} (g0 : szL ts674) (g1 : 0 ≤ n675) (g2 : n675 ≤ (((List.length ts674) : Nat) : Int)) (g3 : (((List.length ts674) : Nat) : Int) < n675 + m) (g4 : ∀ j : Int, 0 ≤ j → j < n675 → fileOk ts674 j)
    (h1 : ∀ (a0 : Int × Int × Int × Unit), (a0.1 ≠ 0) → T P (H1 a0))
    (h2 : ∀ (a0 : Int × Int × Int × Unit), t676 = a0 → (allOk ts674) → T P (H2 a0)),
    T P (fun K => ref23_Check_L0 m ts674 n675 t676 (fun a0 => H1 a0 K) (fun a0 => H2 a0 K)) := by
  intro m
  induction m with
  | zero => intros; omega
  | succ m ih =>
    intro ts674 n675 t676 H1 H2 g0 g1 g2 g3 g4 h1 h2
    rw [ref23_Check_L0]
    unfold ref23_Check_L0.body
    have z0 := szL_len g0
    have := wr64 ((n675 + (1 : Int)))
    have := rb
    have hz := szL_get (i := Int.toNat n675) g0
    obtain ⟨_, _, _, _, _, _⟩ := hz
    repeat' first
      | (intro q; try subst q)
      | ((with_reducible refine h1 _ ?_) <;> try (first | exact stepJ (by assumption) (by assumption) (by omega) | (intro j hj1 hj2; first | exact g4 j hj1 (by omega) | (exfalso; omega)) | with_reducible rfl | assumption | omega | solve_by_elim [szL_get, szO_f, szO_d, szO_s]))
      | ((with_reducible refine h2 _ ?_ ?_) <;> try (first | exact stepJ (by assumption) (by assumption) (by omega) | (intro j hj1 hj2; first | exact g4 j hj1 (by omega) | (exfalso; omega)) | with_reducible rfl | assumption | omega | solve_by_elim [szL_get, szO_f, szO_d, szO_s]))
      | ((with_reducible refine tna ?_ ?_ ?_); omega; omega)
      | ((with_reducible refine tnb ?_ ?_); focus (first | omega | (first | exact stepJ (by assumption) (by assumption) (by omega) | (intro j hj1 hj2; first | exact g4 j hj1 (by omega) | (exfalso; omega)) | with_reducible rfl | assumption | omega | solve_by_elim [szL_get, szO_f, szO_d, szO_s])))
      | ((with_reducible refine tn ?_ ?_); assumption)
      | with_reducible refine tct ?_
      | with_reducible refine tcf ?_
      | with_reducible refine tcn ?_
      | with_reducible refine tcd ?_ ?_
      | with_reducible refine tce ?_ ?_
      | with_reducible refine tcne ?_ ?_
      | with_reducible refine tc ?_ ?_
      | ((with_reducible refine ih ?_ ?_ ?_ ?_ ?_ h1 h2) <;> try (first | exact stepJ (by assumption) (by assumption) (by omega) | (intro j hj1 hj2; first | exact g4 j hj1 (by omega) | (exfalso; omega)) | with_reducible rfl | assumption | omega | solve_by_elim [szL_get, szO_f, szO_d, szO_s]))
      | ((with_reducible refine ref23_Check_L0_L2_c ?_ ?_ ?_ ?_ ?_ ?_ ?_ ?_ ?_) <;> try (first | exact stepJ (by assumption) (by assumption) (by omega) | (intro j hj1 hj2; first | exact g4 j hj1 (by omega) | (exfalso; omega)) | with_reducible rfl | assumption | omega | solve_by_elim [szL_get, szO_f, szO_d, szO_s]))

theorem ref23_Check_c {ts631 : List Obj} {H1 : (Int × Int × Int × Unit) → (ι → O) → O} (g0 : szL ts631)
    (h1 : ∀ (a0 : Int × Int × Int × Unit), (a0.1 = 0 → allOk ts631) → T P (H1 a0)) :
    T P (fun K => ref23_Check ts631 (fun a0 => H1 a0 K)) := by
  unfold ref23_Check ref23_Check.body
  have z0 := szL_len g0
  have := rb
  repeat' first
    | (intro q; try subst q)
    | ((with_reducible refine h1 _ ?_) <;> try (first | (intro h; simp at h; done) | (intro h; exact absurd h (by assumption)) | (intro _; assumption) | (intro j hj1 hj2; first | assumption | (exfalso; omega)) | (intro h; exact absurd h ((by assumption : true = true → _) rfl)) | with_reducible rfl | assumption | omega | solve_by_elim [szL_get, szO_f, szO_d, szO_s]))
    | ((with_reducible refine tna ?_ ?_ ?_); omega; omega)
    | ((with_reducible refine tnb ?_ ?_); focus (first | omega | (first | (intro h; simp at h; done) | (intro h; exact absurd h (by assumption)) | (intro _; assumption) | (intro j hj1 hj2; first | assumption | (exfalso; omega)) | (intro h; exact absurd h ((by assumption : true = true → _) rfl)) | with_reducible rfl | assumption | omega | solve_by_elim [szL_get, szO_f, szO_d, szO_s])))
    | ((with_reducible refine tn ?_ ?_); assumption)
    | with_reducible refine tct ?_
    | with_reducible refine tcf ?_
    | with_reducible refine tcn ?_
    | with_reducible refine tcd ?_ ?_
    | with_reducible refine tce ?_ ?_
    | with_reducible refine tcne ?_ ?_
    | with_reducible refine tc ?_ ?_
    | ((with_reducible refine ref23_Twice_c ?_ ?_) <;> try (first | (intro h; simp at h; done) | (intro h; exact absurd h (by assumption)) | (intro _; assumption) | (intro j hj1 hj2; first | assumption | (exfalso; omega)) | (intro h; exact absurd h ((by assumption : true = true → _) rfl)) | with_reducible rfl | assumption | omega | solve_by_elim [szL_get, szO_f, szO_d, szO_s]))
    | ((with_reducible refine ref23_Check_L0_c ?_ ?_ ?_ ?_ ?_ ?_ ?_) <;> try (first | (intro h; simp at h; done) | (intro h; exact absurd h (by assumption)) | (intro _; assumption) | (intro j hj1 hj2; first | assumption | (exfalso; omega)) | (intro h; exact absurd h ((by assumption : true = true → _) rfl)) | with_reducible rfl | assumption | omega | solve_by_elim [szL_get, szO_f, szO_d, szO_s]))

theorem ref24_program_L0_L2_L4_c : ∀ {m : Nat} {ts717 : List Obj} {n718 : Int} {n719 : Int} {n720 : Int} {n721 : Int} {n722 : Int} {ts723 : List Fun_} {ts724 : List Dat_} {l725 : List Sym} {l726 : List Func} {l727 : List Data} {ns728 : List Int} {H1 : (List Obj) → Int → Int → Int → Int → (List Fun_) → (List Dat_) → (List Sym) → (List Func) → (List Data) → (List Int) → (ι → O) → O} (g0 : szL ts717) (g1 : 0 ≤ n720) (g2 : n720 ≤ (((List.length (List.getD l726 (Int.toNat n719) ((0 : Int), ([], ((0 : Int), (false, ((0 : Int), ((0 : Int), ([], ([], ([], ())))))))))).2.2.2.2.2.2.2.1) : Nat) : Int)) (g3 : (((List.length (List.getD l726 (Int.toNat n719) ((0 : Int), ([], ((0 : Int), (false, ((0 : Int), ((0 : Int), ([], ([], ([], ())))))))))).2.2.2.2.2.2.2.1) : Nat) : Int) < n720 + m) (g4 : szO (l725, (l726, (l727, ())))) (g5 : 0 ≤ n719) (g6 : n719 < (l726.length : Int)) (g7 : funOk (List.getD l726 (Int.toNat n719) ((0 : Int), ([], ((0 : Int), (false, ((0 : Int), ((0 : Int), ([], ([], ([], ())))))))))) l725.length) (g8 : (ns728.length : Int) ≤ n720) (g9 : inN ns728 l725.length)
    (h1 : ∀ (a0 : List Obj) (a1 : Int) (a2 : Int) (a3 : Int) (a4 : Int) (a5 : List Fun_) (a6 : List Dat_) (a7 : List Sym) (a8 : List Func) (a9 : List Data) (a10 : List Int), ts717 = a0 → n718 = a1 → n719 = a2 → n721 = a3 → n722 = a4 → ts723 = a5 → ts724 = a6 → l725 = a7 → l726 = a8 → l727 = a9 → (inN a10 l725.length) → (a10.length ≤ 1000000) → T P (H1 a0 a1 a2 a3 a4 a5 a6 a7 a8 a9 a10)),
    T P (fun K => ref24_program_L0_L2_L4 m ts717 n718 n719 n720 n721 n722 ts723 ts724 l725 l726 l727 ns728 (fun a0 a1 a2 a3 a4 a5 a6 a7 a8 a9 a10 => H1 a0 a1 a2 a3 a4 a5 a6 a7 a8 a9 a10 K)) := by
  intro m
  induction m with
  | zero => intros; omega
  | succ m ih =>
    intro ts717 n718 n719 n720 n721 n722 ts723 ts724 l725 l726 l727 ns728 H1 g0 g1 g2 g3 g4 g5 g6 g7 g8 g9 h1
    rw [ref24_program_L0_L2_L4]
    unfold ref24_program_L0_L2_L4.body
    have z0 := szL_len g0
    have z4 := g4
    obtain ⟨_, _, _, _, _, _⟩ := z4
    have := wr64 ((n720 + (1 : Int)))
    have hz : szF (List.getD l726 (Int.toNat n719) ((0 : Int), ([], ((0 : Int), (false, ((0 : Int), ((0 : Int), ([], ([], ([], ())))))))))) := szO_f g4
    have hz2 := hz
    obtain ⟨_, _, _, _⟩ := hz2
    repeat' first
      | (intro q; try subst q)
      | ((with_reducible refine h1 _ _ _ _ _ _ _ _ _ _ _ ?_ ?_ ?_ ?_ ?_ ?_ ?_ ?_ ?_ ?_ ?_ ?_) <;> try (first | (exact inN_app (by assumption) (fun _ => g7 _ (by omega) (by omega))) | (simp only [List.length_append, List.length_cons, List.length_nil] <;> omega) | with_reducible rfl | assumption | omega | solve_by_elim [szL_get, szO_f, szO_d, szO_s]))
      | ((with_reducible refine tna ?_ ?_ ?_); omega; omega)
      | ((with_reducible refine tnb ?_ ?_); focus (first | omega | (first | (exact inN_app (by assumption) (fun _ => g7 _ (by omega) (by omega))) | (simp only [List.length_append, List.length_cons, List.length_nil] <;> omega) | with_reducible rfl | assumption | omega | solve_by_elim [szL_get, szO_f, szO_d, szO_s])))
      | ((with_reducible refine tn ?_ ?_); assumption)
      | with_reducible refine tct ?_
      | with_reducible refine tcf ?_
      | with_reducible refine tcn ?_
      | with_reducible refine tcd ?_ ?_
      | with_reducible refine tce ?_ ?_
      | with_reducible refine tcne ?_ ?_
      | with_reducible refine tc ?_ ?_
      | ((with_reducible refine ih ?_ ?_ ?_ ?_ ?_ ?_ ?_ ?_ ?_ ?_ h1) <;> try (first | (exact inN_app (by assumption) (fun _ => g7 _ (by omega) (by omega))) | (simp only [List.length_append, List.length_cons, List.length_nil] <;> omega) | with_reducible rfl | assumption | omega | solve_by_elim [szL_get, szO_f, szO_d, szO_s]))
      | ((with_reducible refine ref17_Sym_c ?_ ?_) <;> try (first | (exact inN_app (by assumption) (fun _ => g7 _ (by omega) (by omega))) | (simp only [List.length_append, List.length_cons, List.length_nil] <;> omega) | with_reducible rfl | assumption | omega | solve_by_elim [szL_get, szO_f, szO_d, szO_s]))

theorem ref24_name_c {o : Obj} {i : Int} {H1 : ByteArray → (ι → O) → O} (hd : DefOk o i) (h1 : ∀ s : ByteArray, T P (H1 s)) : T P (fun K => ref24_name o i (fun a => H1 a K)) := by
  obtain ⟨n, p1, p2, e⟩ := hd
  unfold ref24_name ref24_name.body
  refine T.eq ?_ (fun K => e _)
  exact tna (by omega) (by omega) (h1 _)

theorem ref24_number_L0_c : ∀ {m : Nat} {ts759 : List Obj} {n760 : Int} {n761 : Int} {n762 : Int} {t763 : Sym} {H1 : Int → (ι → O) → O} (g0 : szL ts759) (g1 : 0 ≤ n762) (g2 : n762 ≤ n760) (g3 : n760 ≤ 1000000) (g4 : n760 < n762 + m) (g5 : n760 ≤ (ts759.length : Int))
    (h1 : ∀ (a0 : Int), T P (H1 a0)),
    T P (fun K => ref24_number_L0 m ts759 n760 n761 n762 t763 (fun a0 => H1 a0 K)) := by
  intro m
  induction m with
  | zero => intros; omega
  | succ m ih =>
    intro ts759 n760 n761 n762 t763 H1 g0 g1 g2 g3 g4 g5 h1
    rw [ref24_number_L0]
    unfold ref24_number_L0.body
    have z0_n762 := szL_get (i := Int.toNat n762) g0
    obtain ⟨_, _, _, _, _, _⟩ := z0_n762
    have z0 := szL_len g0
    have := wr64 ((n761 + (((List.length (List.getD ts759 (Int.toNat n762) ([], ([], ([], ())))).2.1) : Nat) : Int)))
    have := wr64 ((n762 + (1 : Int)))
    have := wr64 ((n761 + (((List.length (List.getD ts759 (Int.toNat n762) ([], ([], ([], ())))).2.2.1) : Nat) : Int)))
    repeat' first
      | (intro q; try subst q)
      | ((with_reducible refine h1 _))
      | ((with_reducible refine tna ?_ ?_ ?_); omega; omega)
      | ((with_reducible refine tnb ?_ ?_); focus (first | omega | (first | with_reducible rfl | assumption | omega | solve_by_elim [szL_get, szO_f, szO_d, szO_s])))
      | ((with_reducible refine tn ?_ ?_); assumption)
      | with_reducible refine tct ?_
      | with_reducible refine tcf ?_
      | with_reducible refine tcn ?_
      | with_reducible refine tcd ?_ ?_
      | with_reducible refine tce ?_ ?_
      | with_reducible refine tcne ?_ ?_
      | with_reducible refine tc ?_ ?_
      | ((with_reducible refine ih ?_ ?_ ?_ ?_ ?_ ?_ h1) <;> try (first | with_reducible rfl | assumption | omega | solve_by_elim [szL_get, szO_f, szO_d, szO_s]))

theorem ref24_number_c {ts : List Obj} {i j : Int} {H1 : Int → (ι → O) → O} (hL : szL ts) (hb : BoundOk ts i j) (h1 : ∀ n : Int, T P (H1 n)) : T P (fun K => ref24_number ts i j (fun a => H1 a K)) := by
  obtain ⟨a, b, ⟨v1, v2, v3, v4⟩, e⟩ := hb
  have := rb
  have := szL_len hL
  unfold ref24_number ref24_number.body
  refine T.eq ?_ (fun K => e _)
  exact tna (by omega) (by omega) (tna (by omega) (by omega) (ref24_number_L0_c hL (by omega) (by omega) (by omega) (by omega) (by omega) h1))

theorem ref24_bound_L0_c : ∀ {m : Nat} {ts748 : List Obj} {n749 : Int} {ns750 : List Int} {n751 : Int} {ns752 : List Int} {H1 : (List Int) → (ι → O) → O} (g0 : szL ts748) (g1 : ns750.length ≤ 1000000) (g2 : 0 ≤ n751) (g3 : n751 ≤ (((List.length ns750) : Nat) : Int)) (g4 : (((List.length ns750) : Nat) : Int) < n751 + m) (g5 : ∀ j : Int, 0 ≤ j → j < (ns750.length : Int) → 0 ≤ List.getD ns750 (Int.toNat j) 0 → BoundOk ts748 n749 (List.getD ns750 (Int.toNat j) 0)) (g6 : (ns752.length : Int) ≤ n751)
    (h1 : ∀ (a0 : List Int), (a0.length ≤ 1000000) → T P (H1 a0)),
    T P (fun K => ref24_bound_L0 m ts748 n749 ns750 n751 ns752 (fun a0 => H1 a0 K)) := by
  intro m
  induction m with
  | zero => intros; omega
  | succ m ih =>
    intro ts748 n749 ns750 n751 ns752 H1 g0 g1 g2 g3 g4 g5 g6 h1
    rw [ref24_bound_L0]
    unfold ref24_bound_L0.body
    have z0 := szL_len g0
    have := wr64 ((n751 + (1 : Int)))
    repeat' first
      | (intro q; try subst q)
      | ((with_reducible refine h1 _ ?_) <;> try (first | exact g5 _ (by omega) (by omega) (by omega) | (simp only [List.length_append, List.length_cons, List.length_nil] <;> omega) | with_reducible rfl | assumption | omega | solve_by_elim [szL_get, szO_f, szO_d, szO_s]))
      | ((with_reducible refine tna ?_ ?_ ?_); omega; omega)
      | ((with_reducible refine tnb ?_ ?_); focus (first | omega | (first | exact g5 _ (by omega) (by omega) (by omega) | (simp only [List.length_append, List.length_cons, List.length_nil] <;> omega) | with_reducible rfl | assumption | omega | solve_by_elim [szL_get, szO_f, szO_d, szO_s])))
      | ((with_reducible refine tn ?_ ?_); assumption)
      | with_reducible refine tct ?_
      | with_reducible refine tcf ?_
      | with_reducible refine tcn ?_
      | with_reducible refine tcd ?_ ?_
      | with_reducible refine tce ?_ ?_
      | with_reducible refine tcne ?_ ?_
      | with_reducible refine tc ?_ ?_
      | ((with_reducible refine ih ?_ ?_ ?_ ?_ ?_ ?_ ?_ h1) <;> try (first | exact g5 _ (by omega) (by omega) (by omega) | (simp only [List.length_append, List.length_cons, List.length_nil] <;> omega) | with_reducible rfl | assumption | omega | solve_by_elim [szL_get, szO_f, szO_d, szO_s]))
      | ((with_reducible refine ref24_number_c ?_ ?_ ?_) <;> try (first | exact g5 _ (by omega) (by omega) (by omega) | (simp only [List.length_append, List.length_cons, List.length_nil] <;> omega) | with_reducible rfl | assumption | omega | solve_by_elim [szL_get, szO_f, szO_d, szO_s]))

theorem ref24_bound_c {ts745 : List Obj} {n746 : Int} {ns747 : List Int} {H1 : (List Int) → (ι → O) → O} (g0 : szL ts745) (g1 : ns747.length ≤ 1000000) (g2 : ∀ j : Int, 0 ≤ j → j < (ns747.length : Int) → 0 ≤ List.getD ns747 (Int.toNat j) 0 → BoundOk ts745 n746 (List.getD ns747 (Int.toNat j) 0))
    (h1 : ∀ (a0 : List Int), (a0.length ≤ 1000000) → T P (H1 a0)) :
    T P (fun K => ref24_bound ts745 n746 ns747 (fun a0 => H1 a0 K)) := by
  unfold ref24_bound ref24_bound.body
  have z0 := szL_len g0
  have := rb
  repeat' first
    | (intro q; try subst q)
    | ((with_reducible refine h1 _ ?_) <;> try (first | (simp only [List.length_nil] <;> omega) | with_reducible rfl | assumption | omega | solve_by_elim [szL_get, szO_f, szO_d, szO_s]))
    | ((with_reducible refine tna ?_ ?_ ?_); omega; omega)
    | ((with_reducible refine tnb ?_ ?_); focus (first | omega | (first | (simp only [List.length_nil] <;> omega) | with_reducible rfl | assumption | omega | solve_by_elim [szL_get, szO_f, szO_d, szO_s])))
    | ((with_reducible refine tn ?_ ?_); assumption)
    | with_reducible refine tct ?_
    | with_reducible refine tcf ?_
    | with_reducible refine tcn ?_
    | with_reducible refine tcd ?_ ?_
    | with_reducible refine tce ?_ ?_
    | with_reducible refine tcne ?_ ?_
    | with_reducible refine tc ?_ ?_
    | ((with_reducible refine ref24_bound_L0_c ?_ ?_ ?_ ?_ ?_ ?_ ?_ ?_) <;> try (first | (simp only [List.length_nil] <;> omega) | with_reducible rfl | assumption | omega | solve_by_elim [szL_get, szO_f, szO_d, szO_s]))

theorem ref24_program_L0_L2_c : ∀ {m : Nat} {ts707 : List Obj} {n708 : Int} {n709 : Int} {n710 : Int} {n711 : Int} {ts712 : List Fun_} {ts713 : List Dat_} {l714 : List Sym} {l715 : List Func} {l716 : List Data} {B : Int} {H1 : (List Obj) → Int → Int → Int → (List Fun_) → (List Dat_) → (List Sym) → (List Func) → (List Data) → (ι → O) → O} (g0 : szL ts707) (g1 : 0 ≤ n709) (g2 : n709 ≤ (((List.length l715) : Nat) : Int)) (g3 : (((List.length l715) : Nat) : Int) < n709 + m) (g4 : szO (l714, (l715, (l716, ())))) (g5 : objOk (l714, (l715, (l716, ())))) (g6 : ∀ j : Int, 0 ≤ j → j < (l714.length : Int) → BoundOk ts707 n708 j) (g7 : (ts712.length : Int) ≤ B + n709) (g8 : 0 ≤ B ∧ B ≤ 1000000000) (g9 : idOk ts712 n708 n709)
    (h1 : ∀ (a0 : List Obj) (a1 : Int) (a2 : Int) (a3 : Int) (a4 : List Fun_) (a5 : List Dat_) (a6 : List Sym) (a7 : List Func) (a8 : List Data), ts707 = a0 → n708 = a1 → n710 = a2 → n711 = a3 → ts713 = a5 → l714 = a6 → l715 = a7 → l716 = a8 → ((a4.length : Int) ≤ B + 1000) → (idOk a4 (n708 + 1) 0) → T P (H1 a0 a1 a2 a3 a4 a5 a6 a7 a8)),
    T P (fun K => ref24_program_L0_L2 m ts707 n708 n709 n710 n711 ts712 ts713 l714 l715 l716 (fun a0 a1 a2 a3 a4 a5 a6 a7 a8 => H1 a0 a1 a2 a3 a4 a5 a6 a7 a8 K)) := by
  intro m
  induction m with
  | zero => intros; omega
  | succ m ih =>
    intro ts707 n708 n709 n710 n711 ts712 ts713 l714 l715 l716 B H1 g0 g1 g2 g3 g4 g5 g6 g7 g8 g9 h1
    rw [ref24_program_L0_L2]
    unfold ref24_program_L0_L2.body
    have z0 := szL_len g0
    have z4 := g4
    obtain ⟨_, _, _, _, _, _⟩ := z4
    have := wr64 ((n709 + (1 : Int)))
    have := rb
    have hz : l715.length ≤ 1000 := g4.2.1
    have hzf : szF (List.getD l715 (Int.toNat n709) ((0 : Int), ([], ((0 : Int), (false, ((0 : Int), ((0 : Int), ([], ([], ([], ())))))))))) := szO_f g4
    have hz2 := hzf
    obtain ⟨_, _, _, _⟩ := hz2
    have hit : n709 < (l715.length : Int) → itemOk (l714, (l715, (l716, ()))) n709 := fun h => g5 n709 (by omega) (by show _ < (List.length l715 : Int) + (List.length l716 : Int); omega)
    repeat' first
      | (intro q; try subst q)
      | ((with_reducible refine h1 _ _ _ _ _ _ _ _ _ ?_ ?_ ?_ ?_ ?_ ?_ ?_ ?_ ?_ ?_) <;> try (first | exact idOk_step (by assumption) (by omega) | exact idOk_file (by assumption) | exact (hit (by omega)).2.1 (by assumption) | exact (hit (by omega)).1 | exact inN_nil | (intro j hj1 hj2 hj3; exact g6 _ hj3 ((by assumption : inN _ _) j hj1 hj2 hj3)) | (simp only [List.length_append, List.length_cons, List.length_nil] <;> omega) | with_reducible rfl | assumption | omega | solve_by_elim [szL_get, szO_f, szO_d, szO_s]))
      | ((with_reducible refine tna ?_ ?_ ?_); omega; omega)
      | ((with_reducible refine tnb ?_ ?_); focus (first | omega | (first | exact idOk_step (by assumption) (by omega) | exact idOk_file (by assumption) | exact (hit (by omega)).2.1 (by assumption) | exact (hit (by omega)).1 | exact inN_nil | (intro j hj1 hj2 hj3; exact g6 _ hj3 ((by assumption : inN _ _) j hj1 hj2 hj3)) | (simp only [List.length_append, List.length_cons, List.length_nil] <;> omega) | with_reducible rfl | assumption | omega | solve_by_elim [szL_get, szO_f, szO_d, szO_s])))
      | ((with_reducible refine tn ?_ ?_); assumption)
      | with_reducible refine tct ?_
      | with_reducible refine tcf ?_
      | with_reducible refine tcn ?_
      | with_reducible refine tcd ?_ ?_
      | with_reducible refine tce ?_ ?_
      | with_reducible refine tcne ?_ ?_
      | with_reducible refine tc ?_ ?_
      | ((with_reducible refine ih ?_ ?_ ?_ ?_ ?_ ?_ ?_ ?_ ?_ ?_ h1) <;> try (first | exact idOk_step (by assumption) (by omega) | exact idOk_file (by assumption) | exact (hit (by omega)).2.1 (by assumption) | exact (hit (by omega)).1 | exact inN_nil | (intro j hj1 hj2 hj3; exact g6 _ hj3 ((by assumption : inN _ _) j hj1 hj2 hj3)) | (simp only [List.length_append, List.length_cons, List.length_nil] <;> omega) | with_reducible rfl | assumption | omega | solve_by_elim [szL_get, szO_f, szO_d, szO_s]))
      | ((with_reducible refine ref24_name_c ?_ ?_) <;> try (first | exact idOk_step (by assumption) (by omega) | exact idOk_file (by assumption) | exact (hit (by omega)).2.1 (by assumption) | exact (hit (by omega)).1 | exact inN_nil | (intro j hj1 hj2 hj3; exact g6 _ hj3 ((by assumption : inN _ _) j hj1 hj2 hj3)) | (simp only [List.length_append, List.length_cons, List.length_nil] <;> omega) | with_reducible rfl | assumption | omega | solve_by_elim [szL_get, szO_f, szO_d, szO_s]))
      | ((with_reducible refine ref24_bound_c ?_ ?_ ?_ ?_) <;> try (first | exact idOk_step (by assumption) (by omega) | exact idOk_file (by assumption) | exact (hit (by omega)).2.1 (by assumption) | exact (hit (by omega)).1 | exact inN_nil | (intro j hj1 hj2 hj3; exact g6 _ hj3 ((by assumption : inN _ _) j hj1 hj2 hj3)) | (simp only [List.length_append, List.length_cons, List.length_nil] <;> omega) | with_reducible rfl | assumption | omega | solve_by_elim [szL_get, szO_f, szO_d, szO_s]))
      | ((with_reducible refine ref24_program_L0_L2_L4_c ?_ ?_ ?_ ?_ ?_ ?_ ?_ ?_ ?_ ?_ ?_) <;> try (first | exact idOk_step (by assumption) (by omega) | exact idOk_file (by assumption) | exact (hit (by omega)).2.1 (by assumption) | exact (hit (by omega)).1 | exact inN_nil | (intro j hj1 hj2 hj3; exact g6 _ hj3 ((by assumption : inN _ _) j hj1 hj2 hj3)) | (simp only [List.length_append, List.length_cons, List.length_nil] <;> omega) | with_reducible rfl | assumption | omega | solve_by_elim [szL_get, szO_f, szO_d, szO_s]))

theorem ref15_Marks_L0_L2_c : ∀ {m : Nat} {ts795 : List Reloc} {n796 : Int} {n797 : Int} {n798 : Int} {n799 : Int} {ns800 : List Int} {H1 : (List Reloc) → Int → Int → Int → (List Int) → (ι → O) → O} (g0 : ts795.length ≤ 1000000) (g1 : -1 ≤ n799) (g2 : n799 < (ts795.length : Int)) (g3 : n799 + 1 < m) (g4 : -1 ≤ n798) (g5 : n798 < (ts795.length : Int))
    (h1 : ∀ (a0 : List Reloc) (a1 : Int) (a2 : Int) (a3 : Int) (a4 : List Int), ts795 = a0 → n796 = a1 → n797 = a2 → ns800 = a4 → (-1 ≤ a3) → (a3 < (ts795.length : Int)) → T P (H1 a0 a1 a2 a3 a4)),
    T P (fun K => ref15_Marks_L0_L2 m ts795 n796 n797 n798 n799 ns800 (fun a0 a1 a2 a3 a4 => H1 a0 a1 a2 a3 a4 K)) := by
  intro m
  induction m with
  | zero => intros; omega
  | succ m ih =>
    intro ts795 n796 n797 n798 n799 ns800 H1 g0 g1 g2 g3 g4 g5 h1
    rw [ref15_Marks_L0_L2]
    unfold ref15_Marks_L0_L2.body
    have := wr64 ((n799 - (1 : Int)))
    repeat' first
      | (intro q; try subst q)
      | ((with_reducible refine h1 _ _ _ _ _ ?_ ?_ ?_ ?_ ?_ ?_) <;> try (first | with_reducible rfl | assumption | omega | solve_by_elim [szL_get, szO_f, szO_d, szO_s]))
      | ((with_reducible refine tna ?_ ?_ ?_); omega; omega)
      | ((with_reducible refine tnb ?_ ?_); focus (first | omega | (first | with_reducible rfl | assumption | omega | solve_by_elim [szL_get, szO_f, szO_d, szO_s])))
      | ((with_reducible refine tn ?_ ?_); assumption)
      | with_reducible refine tct ?_
      | with_reducible refine tcf ?_
      | with_reducible refine tcn ?_
      | with_reducible refine tcd ?_ ?_
      | with_reducible refine tce ?_ ?_
      | with_reducible refine tcne ?_ ?_
      | with_reducible refine tc ?_ ?_
      | ((with_reducible refine ih ?_ ?_ ?_ ?_ ?_ ?_ h1) <;> try (first | with_reducible rfl | assumption | omega | solve_by_elim [szL_get, szO_f, szO_d, szO_s]))

theorem ref15_Marks_L0_c : ∀ {m : Nat} {ts791 : List Reloc} {n792 : Int} {n793 : Int} {ns794 : List Int} {H1 : (List Int) → (ι → O) → O} (g0 : ts791.length ≤ 1000000) (g1 : 0 ≤ n793) (g2 : n793 ≤ n792) (g3 : n792 ≤ 1000000) (g4 : n792 < n793 + m) (g5 : (ns794.length : Int) ≤ n793) (g6 : inN ns794 ts791.length)
    (h1 : ∀ (a0 : List Int), (a0.length ≤ 1000000) → (inN a0 ts791.length) → T P (H1 a0)),
    T P (fun K => ref15_Marks_L0 m ts791 n792 n793 ns794 (fun a0 => H1 a0 K)) := by
  intro m
  induction m with
  | zero => intros; omega
  | succ m ih =>
    intro ts791 n792 n793 ns794 H1 g0 g1 g2 g3 g4 g5 g6 h1
    rw [ref15_Marks_L0]
    unfold ref15_Marks_L0.body
    have := wr64 (((((List.length ts791) : Nat) : Int) - (1 : Int)))
    have := wr64 ((n793 + (1 : Int)))
    have := rb
    have := wr64 ((ts791.length : Int) - 1)
    repeat' first
      | (intro q; try subst q)
      | ((with_reducible refine h1 _ ?_ ?_) <;> try (first | (exact inN_app (by assumption) (fun _ => by omega)) | (simp only [List.length_append, List.length_cons, List.length_nil] <;> omega) | with_reducible rfl | assumption | omega | solve_by_elim [szL_get, szO_f, szO_d, szO_s]))
      | ((with_reducible refine tna ?_ ?_ ?_); omega; omega)
      | ((with_reducible refine tnb ?_ ?_); focus (first | omega | (first | (exact inN_app (by assumption) (fun _ => by omega)) | (simp only [List.length_append, List.length_cons, List.length_nil] <;> omega) | with_reducible rfl | assumption | omega | solve_by_elim [szL_get, szO_f, szO_d, szO_s])))
      | ((with_reducible refine tn ?_ ?_); assumption)
      | with_reducible refine tct ?_
      | with_reducible refine tcf ?_
      | with_reducible refine tcn ?_
      | with_reducible refine tcd ?_ ?_
      | with_reducible refine tce ?_ ?_
      | with_reducible refine tcne ?_ ?_
      | with_reducible refine tc ?_ ?_
      | ((with_reducible refine ih ?_ ?_ ?_ ?_ ?_ ?_ ?_ h1) <;> try (first | (exact inN_app (by assumption) (fun _ => by omega)) | (simp only [List.length_append, List.length_cons, List.length_nil] <;> omega) | with_reducible rfl | assumption | omega | solve_by_elim [szL_get, szO_f, szO_d, szO_s]))
      | ((with_reducible refine ref15_Marks_L0_L2_c ?_ ?_ ?_ ?_ ?_ ?_ ?_) <;> try (first | (exact inN_app (by assumption) (fun _ => by omega)) | (simp only [List.length_append, List.length_cons, List.length_nil] <;> omega) | with_reducible rfl | assumption | omega | solve_by_elim [szL_get, szO_f, szO_d, szO_s]))

theorem ref15_Marks_c {ts789 : List Reloc} {n790 : Int} {H1 : (List Int) → (ι → O) → O} (g0 : ts789.length ≤ 1000000) (g1 : 0 ≤ n790) (g2 : n790 ≤ 1000000)
    (h1 : ∀ (a0 : List Int), (a0.length ≤ 1000000) → (inN a0 ts789.length) → T P (H1 a0)) :
    T P (fun K => ref15_Marks ts789 n790 (fun a0 => H1 a0 K)) := by
  unfold ref15_Marks ref15_Marks.body
  have := rb
  repeat' first
    | (intro q; try subst q)
    | ((with_reducible refine h1 _ ?_ ?_) <;> try (first | exact inN_nil | (simp only [List.length_nil] <;> omega) | with_reducible rfl | assumption | omega | solve_by_elim [szL_get, szO_f, szO_d, szO_s]))
    | ((with_reducible refine tna ?_ ?_ ?_); omega; omega)
    | ((with_reducible refine tnb ?_ ?_); focus (first | omega | (first | exact inN_nil | (simp only [List.length_nil] <;> omega) | with_reducible rfl | assumption | omega | solve_by_elim [szL_get, szO_f, szO_d, szO_s])))
    | ((with_reducible refine tn ?_ ?_); assumption)
    | with_reducible refine tct ?_
    | with_reducible refine tcf ?_
    | with_reducible refine tcn ?_
    | with_reducible refine tcd ?_ ?_
    | with_reducible refine tce ?_ ?_
    | with_reducible refine tcne ?_ ?_
    | with_reducible refine tc ?_ ?_
    | ((with_reducible refine ref15_Marks_L0_c ?_ ?_ ?_ ?_ ?_ ?_ ?_ ?_) <;> try (first | exact inN_nil | (simp only [List.length_nil] <;> omega) | with_reducible rfl | assumption | omega | solve_by_elim [szL_get, szO_f, szO_d, szO_s]))

theorem ref15_Refs_L0_c : ∀ {m : Nat} {n808 : Int} {t809 : Data} {ns810 : List Int} {N : Nat} {H1 : (List Int) → (ι → O) → O} (g0 : szD t809) (g1 : 0 ≤ n808) (g2 : n808 ≤ (((List.length ns810) : Nat) : Int)) (g3 : (((List.length ns810) : Nat) : Int) < n808 + m) (g4 : ns810.length ≤ 1000000) (g5 : datOk t809 N) (g6 : ∀ j : Int, n808 ≤ j → j < (ns810.length : Int) → 0 ≤ List.getD ns810 (Int.toNat j) 0 → List.getD ns810 (Int.toNat j) 0 < (t809.2.2.1.length : Int)) (g7 : ∀ j : Int, 0 ≤ j → j < n808 → 0 ≤ List.getD ns810 (Int.toNat j) 0 → List.getD ns810 (Int.toNat j) 0 < (N : Int))
    (h1 : ∀ (a0 : List Int), (a0.length ≤ 1000000) → (inN a0 N) → T P (H1 a0)),
    T P (fun K => ref15_Refs_L0 m n808 t809 ns810 (fun a0 => H1 a0 K)) := by
  intro m
  induction m with
  | zero => intros; omega
  | succ m ih =>
    intro n808 t809 ns810 N H1 g0 g1 g2 g3 g4 g5 g6 g7 h1
    rw [ref15_Refs_L0]
    unfold ref15_Refs_L0.body
    have z0 := g0
    obtain ⟨_, _⟩ := z0
    have := wr64 ((n808 + (1 : Int)))
    have hq := g6 n808 (Int.le_refl _)
    repeat' first
      | (intro q; try subst q)
      | ((with_reducible refine h1 _ ?_ ?_) <;> try (first | (rw [List.length_set]; first | assumption | omega) | (intro j hj1 hj2 hj3; exact g7 j hj1 (by omega) hj3) | (intro j hj1 hj2; rw [List.length_set] at hj2; rw [getD_set (by omega), if_neg (by omega)]; exact g6 j (by omega) (by omega)) | (intro j hj1 hj2; exact g6 j (by omega) (by omega)) | (intro j hj1 hj2; rw [getD_set (by omega)]; split; exact fun _ => g5 _ (by omega) (g6 _ (by omega) (by omega) (by omega)); exact g7 j hj1 (by omega)) | (intro j hj1 hj2; by_cases hj : j < n808; exact g7 j hj1 hj; obtain rfl : j = n808 := (by omega); intro _; omega) | with_reducible rfl | assumption | omega | solve_by_elim [szL_get, szO_f, szO_d, szO_s]))
      | ((with_reducible refine tna ?_ ?_ ?_); omega; omega)
      | ((with_reducible refine tnb ?_ ?_); focus (first | omega | (first | (rw [List.length_set]; first | assumption | omega) | (intro j hj1 hj2 hj3; exact g7 j hj1 (by omega) hj3) | (intro j hj1 hj2; rw [List.length_set] at hj2; rw [getD_set (by omega), if_neg (by omega)]; exact g6 j (by omega) (by omega)) | (intro j hj1 hj2; exact g6 j (by omega) (by omega)) | (intro j hj1 hj2; rw [getD_set (by omega)]; split; exact fun _ => g5 _ (by omega) (g6 _ (by omega) (by omega) (by omega)); exact g7 j hj1 (by omega)) | (intro j hj1 hj2; by_cases hj : j < n808; exact g7 j hj1 hj; obtain rfl : j = n808 := (by omega); intro _; omega) | with_reducible rfl | assumption | omega | solve_by_elim [szL_get, szO_f, szO_d, szO_s])))
      | ((with_reducible refine tn ?_ ?_); assumption)
      | with_reducible refine tct ?_
      | with_reducible refine tcf ?_
      | with_reducible refine tcn ?_
      | with_reducible refine tcd ?_ ?_
      | with_reducible refine tce ?_ ?_
      | with_reducible refine tcne ?_ ?_
      | with_reducible refine tc ?_ ?_
      | ((with_reducible refine ih ?_ ?_ ?_ ?_ ?_ ?_ ?_ ?_ h1) <;> try (first | (rw [List.length_set]; first | assumption | omega) | (intro j hj1 hj2 hj3; exact g7 j hj1 (by omega) hj3) | (intro j hj1 hj2; rw [List.length_set] at hj2; rw [getD_set (by omega), if_neg (by omega)]; exact g6 j (by omega) (by omega)) | (intro j hj1 hj2; exact g6 j (by omega) (by omega)) | (intro j hj1 hj2; rw [getD_set (by omega)]; split; exact fun _ => g5 _ (by omega) (g6 _ (by omega) (by omega) (by omega)); exact g7 j hj1 (by omega)) | (intro j hj1 hj2; by_cases hj : j < n808; exact g7 j hj1 hj; obtain rfl : j = n808 := (by omega); intro _; omega) | with_reducible rfl | assumption | omega | solve_by_elim [szL_get, szO_f, szO_d, szO_s]))

theorem ref15_Refs_c {t788 : Data} {N : Nat} {H1 : (List Int) → (ι → O) → O} (g0 : szD t788) (g1 : datOk t788 N)
    (h1 : ∀ (a0 : List Int), (a0.length ≤ 1000000) → (inN a0 N) → T P (H1 a0)) :
    T P (fun K => ref15_Refs t788 (fun a0 => H1 a0 K)) := by
  unfold ref15_Refs ref15_Refs.body
  have z0 := g0
  obtain ⟨_, _⟩ := z0
  have := rb
  repeat' first
    | (intro q; try subst q)
    | ((with_reducible refine h1 _ ?_ ?_) <;> try (first | (intro j hj1 hj2; omega) | (intro j hj1 hj2 hj3; solve_by_elim)  | with_reducible rfl | assumption | omega | solve_by_elim [szL_get, szO_f, szO_d, szO_s]))
    | ((with_reducible refine tna ?_ ?_ ?_); omega; omega)
    | ((with_reducible refine tnb ?_ ?_); focus (first | omega | (first | (intro j hj1 hj2; omega) | (intro j hj1 hj2 hj3; solve_by_elim)  | with_reducible rfl | assumption | omega | solve_by_elim [szL_get, szO_f, szO_d, szO_s])))
    | ((with_reducible refine tn ?_ ?_); assumption)
    | with_reducible refine tct ?_
    | with_reducible refine tcf ?_
    | with_reducible refine tcn ?_
    | with_reducible refine tcd ?_ ?_
    | with_reducible refine tce ?_ ?_
    | with_reducible refine tcne ?_ ?_
    | with_reducible refine tc ?_ ?_
    | ((with_reducible refine ref15_Marks_c ?_ ?_ ?_ ?_) <;> try (first | (intro j hj1 hj2; omega) | (intro j hj1 hj2 hj3; solve_by_elim)  | with_reducible rfl | assumption | omega | solve_by_elim [szL_get, szO_f, szO_d, szO_s]))
    | ((with_reducible refine ref15_Refs_L0_c (N := N) ?_ ?_ ?_ ?_ ?_ ?_ ?_ ?_ ?_) <;> try (first | (intro j hj1 hj2; omega) | (intro j hj1 hj2 hj3; solve_by_elim)  | with_reducible rfl | assumption | omega | solve_by_elim [szL_get, szO_f, szO_d, szO_s]))

theorem ref24_program_L0_L6_c : ∀ {m : Nat} {ts777 : List Obj} {n778 : Int} {n779 : Int} {n780 : Int} {n781 : Int} {ts782 : List Fun_} {ts783 : List Dat_} {l784 : List Sym} {l785 : List Func} {l786 : List Data} {B : Int} {H1 : (List Obj) → Int → Int → Int → (List Fun_) → (List Dat_) → (ι → O) → O} (g0 : szL ts777) (g1 : 0 ≤ n779) (g2 : n779 ≤ (((List.length l786) : Nat) : Int)) (g3 : (((List.length l786) : Nat) : Int) < n779 + m) (g4 : szO (l784, (l785, (l786, ())))) (g5 : objOk (l784, (l785, (l786, ())))) (g6 : ∀ j : Int, 0 ≤ j → j < (l784.length : Int) → BoundOk ts777 n778 j) (g7 : (ts783.length : Int) ≤ B + n779) (g8 : 0 ≤ B ∧ B ≤ 1000000000)
    (h1 : ∀ (a0 : List Obj) (a1 : Int) (a2 : Int) (a3 : Int) (a4 : List Fun_) (a5 : List Dat_), ts777 = a0 → n778 = a1 → n780 = a2 → n781 = a3 → ts782 = a4 → ((a5.length : Int) ≤ B + 1000) → T P (H1 a0 a1 a2 a3 a4 a5)),
    T P (fun K => ref24_program_L0_L6 m ts777 n778 n779 n780 n781 ts782 ts783 l784 l785 l786 (fun a0 a1 a2 a3 a4 a5 => H1 a0 a1 a2 a3 a4 a5 K)) := by
  intro m
  induction m with
  | zero => intros; omega
  | succ m ih =>
    intro ts777 n778 n779 n780 n781 ts782 ts783 l784 l785 l786 B H1 g0 g1 g2 g3 g4 g5 g6 g7 g8 h1
    rw [ref24_program_L0_L6]
    unfold ref24_program_L0_L6.body
    have z0 := szL_len g0
    have z4 := g4
    obtain ⟨_, _, _, _, _, _⟩ := z4
    have := wr64 (((((List.length l785) : Nat) : Int) + n779))
    have := wr64 ((n779 + (1 : Int)))
    have hz : l786.length ≤ 1000 := g4.2.2.1
    have hz8 : l785.length ≤ 1000 := g4.2.1
    have hzd : szD (List.getD l786 (Int.toNat n779) ((0 : Int), ([], ([], ())))) := szO_d g4
    have hw := wr64 (((l785.length : Nat) : Int) + n779)
    have hit : n779 < (l786.length : Int) → itemOk (l784, (l785, (l786, ()))) ((l785.length : Int) + n779) := fun h => g5 _ (by omega) (by show _ < (List.length l785 : Int) + (List.length l786 : Int); omega)
    have hdat : n779 < (l786.length : Int) → datOk (List.getD l786 (Int.toNat n779) ((0 : Int), ([], ([], ())))) l784.length := fun h => dat_of (o := (l784, (l785, (l786, ())))) (hit h) (by omega)
    repeat' first
      | (intro q; try subst q)
      | ((with_reducible refine h1 _ _ _ _ _ _ ?_ ?_ ?_ ?_ ?_ ?_) <;> try (first | exact hdat (by omega) | (rw [hw ⟨by omega, by omega⟩]; exact (hit (by omega)).1) | (intro j hj1 hj2 hj3; exact g6 _ hj3 ((by assumption : inN _ _) j hj1 hj2 hj3)) | (simp only [List.length_append, List.length_cons, List.length_nil] <;> omega) | with_reducible rfl | assumption | omega | solve_by_elim [szL_get, szO_f, szO_d, szO_s]))
      | ((with_reducible refine tna ?_ ?_ ?_); omega; omega)
      | ((with_reducible refine tnb ?_ ?_); focus (first | omega | (first | exact hdat (by omega) | (rw [hw ⟨by omega, by omega⟩]; exact (hit (by omega)).1) | (intro j hj1 hj2 hj3; exact g6 _ hj3 ((by assumption : inN _ _) j hj1 hj2 hj3)) | (simp only [List.length_append, List.length_cons, List.length_nil] <;> omega) | with_reducible rfl | assumption | omega | solve_by_elim [szL_get, szO_f, szO_d, szO_s])))
      | ((with_reducible refine tn ?_ ?_); assumption)
      | with_reducible refine tct ?_
      | with_reducible refine tcf ?_
      | with_reducible refine tcn ?_
      | with_reducible refine tcd ?_ ?_
      | with_reducible refine tce ?_ ?_
      | with_reducible refine tcne ?_ ?_
      | with_reducible refine tc ?_ ?_
      | ((with_reducible refine ih ?_ ?_ ?_ ?_ ?_ ?_ ?_ ?_ ?_ h1) <;> try (first | exact hdat (by omega) | (rw [hw ⟨by omega, by omega⟩]; exact (hit (by omega)).1) | (intro j hj1 hj2 hj3; exact g6 _ hj3 ((by assumption : inN _ _) j hj1 hj2 hj3)) | (simp only [List.length_append, List.length_cons, List.length_nil] <;> omega) | with_reducible rfl | assumption | omega | solve_by_elim [szL_get, szO_f, szO_d, szO_s]))
      | ((with_reducible refine ref24_name_c ?_ ?_) <;> try (first | exact hdat (by omega) | (rw [hw ⟨by omega, by omega⟩]; exact (hit (by omega)).1) | (intro j hj1 hj2 hj3; exact g6 _ hj3 ((by assumption : inN _ _) j hj1 hj2 hj3)) | (simp only [List.length_append, List.length_cons, List.length_nil] <;> omega) | with_reducible rfl | assumption | omega | solve_by_elim [szL_get, szO_f, szO_d, szO_s]))
      | ((with_reducible refine ref15_Refs_c (N := l784.length) ?_ ?_ ?_) <;> try (first | exact hdat (by omega) | (rw [hw ⟨by omega, by omega⟩]; exact (hit (by omega)).1) | (intro j hj1 hj2 hj3; exact g6 _ hj3 ((by assumption : inN _ _) j hj1 hj2 hj3)) | (simp only [List.length_append, List.length_cons, List.length_nil] <;> omega) | with_reducible rfl | assumption | omega | solve_by_elim [szL_get, szO_f, szO_d, szO_s]))
      | ((with_reducible refine ref24_bound_c ?_ ?_ ?_ ?_) <;> try (first | exact hdat (by omega) | (rw [hw ⟨by omega, by omega⟩]; exact (hit (by omega)).1) | (intro j hj1 hj2 hj3; exact g6 _ hj3 ((by assumption : inN _ _) j hj1 hj2 hj3)) | (simp only [List.length_append, List.length_cons, List.length_nil] <;> omega) | with_reducible rfl | assumption | omega | solve_by_elim [szL_get, szO_f, szO_d, szO_s]))

theorem ref24_program_L0_c : ∀ {m : Nat} {ts701 : List Obj} {n702 : Int} {n703 : Int} {n704 : Int} {ts705 : List Fun_} {ts706 : List Dat_} {H1 : Int → Int → (List Fun_) → (List Dat_) → (ι → O) → O} (g0 : szL ts701) (g1 : 0 ≤ n702) (g2 : n702 ≤ (((List.length ts701) : Nat) : Int)) (g3 : (((List.length ts701) : Nat) : Int) < n702 + m) (g4 : ∀ i : Int, 0 ≤ i → i < (ts701.length : Int) → objOk (List.getD ts701 (Int.toNat i) ([], ([], ([], ()))))) (g5 : allOk ts701) (g6 : (ts705.length : Int) ≤ 1000 * n702) (g7 : (ts706.length : Int) ≤ 1000 * n702) (g8 : idOk ts705 n702 0)
    (h1 : ∀ (a0 : Int) (a1 : Int) (a2 : List Fun_) (a3 : List Dat_), n703 = a0 → n704 = a1 → ((a2.length : Int) ≤ 1000 * (ts701.length : Int)) → ((a3.length : Int) ≤ 1000 * (ts701.length : Int)) → (idOk a2 (ts701.length : Int) 0) → T P (H1 a0 a1 a2 a3)),
    T P (fun K => ref24_program_L0 m ts701 n702 n703 n704 ts705 ts706 (fun a0 a1 a2 a3 => H1 a0 a1 a2 a3 K)) := by
  intro m
  induction m with
  | zero => intros; omega
  | succ m ih =>
    intro ts701 n702 n703 n704 ts705 ts706 H1 g0 g1 g2 g3 g4 g5 g6 g7 g8 h1
    rw [ref24_program_L0]
    unfold ref24_program_L0.body
    have z0_n702 := szL_get (i := Int.toNat n702) g0
    obtain ⟨_, _, _, _, _, _⟩ := z0_n702
    have z0 := szL_len g0
    have := wr64 ((n702 + (1 : Int)))
    have := rb
    have hz := szL_get (i := Int.toNat n702) g0
    obtain ⟨_, _, _, _, _, _⟩ := hz
    repeat' first
      | (intro q; try subst q)
      | ((with_reducible refine h1 _ _ _ _ ?_ ?_ ?_ ?_ ?_) <;> try (first | exact idOk_eq (by assumption) (by omega) | exact szL_get (by assumption) | exact g4 _ (by omega) (by omega) | exact g5 _ (by omega) (by omega) | with_reducible rfl | assumption | omega | solve_by_elim [szL_get, szO_f, szO_d, szO_s]))
      | ((with_reducible refine tna ?_ ?_ ?_); omega; omega)
      | ((with_reducible refine tnb ?_ ?_); focus (first | omega | (first | exact idOk_eq (by assumption) (by omega) | exact szL_get (by assumption) | exact g4 _ (by omega) (by omega) | exact g5 _ (by omega) (by omega) | with_reducible rfl | assumption | omega | solve_by_elim [szL_get, szO_f, szO_d, szO_s])))
      | ((with_reducible refine tn ?_ ?_); assumption)
      | with_reducible refine tct ?_
      | with_reducible refine tcf ?_
      | with_reducible refine tcn ?_
      | with_reducible refine tcd ?_ ?_
      | with_reducible refine tce ?_ ?_
      | with_reducible refine tcne ?_ ?_
      | with_reducible refine tc ?_ ?_
      | ((with_reducible refine ih ?_ ?_ ?_ ?_ ?_ ?_ ?_ ?_ ?_ h1) <;> try (first | exact idOk_eq (by assumption) (by omega) | exact szL_get (by assumption) | exact g4 _ (by omega) (by omega) | exact g5 _ (by omega) (by omega) | with_reducible rfl | assumption | omega | solve_by_elim [szL_get, szO_f, szO_d, szO_s]))
      | ((with_reducible refine ref24_program_L0_L2_c (B := 1000 * n702) ?_ ?_ ?_ ?_ ?_ ?_ ?_ ?_ ?_ ?_ ?_) <;> try (first | exact idOk_eq (by assumption) (by omega) | exact szL_get (by assumption) | exact g4 _ (by omega) (by omega) | exact g5 _ (by omega) (by omega) | with_reducible rfl | assumption | omega | solve_by_elim [szL_get, szO_f, szO_d, szO_s]))
      | ((with_reducible refine ref24_program_L0_L6_c (B := 1000 * n702) ?_ ?_ ?_ ?_ ?_ ?_ ?_ ?_ ?_ ?_) <;> try (first | exact idOk_eq (by assumption) (by omega) | exact szL_get (by assumption) | exact g4 _ (by omega) (by omega) | exact g5 _ (by omega) (by omega) | with_reducible rfl | assumption | omega | solve_by_elim [szL_get, szO_f, szO_d, szO_s]))

theorem ref24_program_c {ts700 : List Obj} {H1 : Int → (List Fun_) → (List Dat_) → (ι → O) → O} (g0 : szL ts700) (g1 : ∀ i : Int, 0 ≤ i → i < (ts700.length : Int) → objOk (List.getD ts700 (Int.toNat i) ([], ([], ([], ()))))) (g2 : allOk ts700)
    (h1 : ∀ (a0 : Int) (a1 : List Fun_) (a2 : List Dat_), (a1.length ≤ 1000000) → (a2.length ≤ 1000000) → (idD a1) → T P (H1 a0 a1 a2)) :
    T P (fun K => ref24_program ts700 (fun a0 a1 a2 => H1 a0 a1 a2 K)) := by
  unfold ref24_program ref24_program.body
  have z0 := szL_len g0
  have := rb
  repeat' first
    | (intro q; try subst q)
    | ((with_reducible refine h1 _ _ _ ?_ ?_ ?_) <;> try (first | exact idOk_nil | exact idOk_D (by assumption) | (simp only [List.length_nil] <;> omega) | with_reducible rfl | assumption | omega | solve_by_elim [szL_get, szO_f, szO_d, szO_s]))
    | ((with_reducible refine tna ?_ ?_ ?_); omega; omega)
    | ((with_reducible refine tnb ?_ ?_); focus (first | omega | (first | exact idOk_nil | exact idOk_D (by assumption) | (simp only [List.length_nil] <;> omega) | with_reducible rfl | assumption | omega | solve_by_elim [szL_get, szO_f, szO_d, szO_s])))
    | ((with_reducible refine tn ?_ ?_); assumption)
    | with_reducible refine tct ?_
    | with_reducible refine tcf ?_
    | with_reducible refine tcn ?_
    | with_reducible refine tcd ?_ ?_
    | with_reducible refine tce ?_ ?_
    | with_reducible refine tcne ?_ ?_
    | with_reducible refine tc ?_ ?_
    | ((with_reducible refine ref24_program_L0_c ?_ ?_ ?_ ?_ ?_ ?_ ?_ ?_ ?_ ?_) <;> try (first | exact idOk_nil | exact idOk_D (by assumption) | (simp only [List.length_nil] <;> omega) | with_reducible rfl | assumption | omega | solve_by_elim [szL_get, szO_f, szO_d, szO_s]))

theorem ref24_Bind_c {ts : List Obj} {s : ByteArray} {H1 : (List Fun_ × List Dat_ × Int × Unit) → (Int × Int × Int × Unit) → (ι → O) → O} (hL : szL ts) (hs : s.size ≤ 100000) (h1 : ∀ p e, p.1.length ≤ 1000000 → p.2.1.length ≤ 1000000 → idD p.1 → T P (H1 p e)) : T P (fun K => ref24_Bind ts s (fun a b => H1 a b K)) := by
  have := rb
  have := szL_len hL
  unfold ref24_Bind ref24_Bind.body
  refine tcn (tce (fun _ => h1 _ _ (by decide) (by decide) idD_nil) (fun _ => ?_))
  refine tcd (fun _ => h1 _ _ (by decide) (by decide) idD_nil) (fun _ => ?_)
  refine ref24_Bind_L0_c hL hs (by omega) (by omega) (by omega) (fun i h1 h2 => by omega) (fun a b e1 e2 e3 => h1 a b e1 e2 e3) (fun a0 a1 a2 a3 e0 e1 e2 e3 hob => ?_)
  subst e0 e1 e2 e3
  refine ref23_Check_c hL (fun t ht => tcne (fun _ => h1 _ _ (by decide) (by decide) idD_nil) (fun h0 => ?_))
  have hall := ht h0
  refine ref23_Find_c hL hs (fun a b c hv => tcn (tcn (tc (fun hc => ?_) (fun _ => h1 _ _ (by decide) (by decide) idD_nil))))
  obtain ⟨v1, v2, v3, v4⟩ := hv hc
  refine tna (by omega) (by omega) (tna (by omega) (by omega) (tcn (tcne (fun _ => h1 _ _ (by decide) (by decide) idD_nil) (fun _ => ?_))))
  refine tna (by omega) (by omega) (tna (by omega) (by omega) (tcd (fun _ => h1 _ _ (by decide) (by decide) idD_nil) (fun _ => ?_)))
  exact ref24_program_c hL hob hall (fun a b c q1 q2 q3 => ref24_number_c hL (hall _ v1 v2 _ v3 v4) (fun n => h1 _ _ q1 q2 q3))

theorem ref25_Few_L0_c : ∀ {m : Nat} {n831 : Int} {t832 : Prog} {H1 : Bool → (ι → O) → O} {H2 : Prog → (ι → O) → O} (g0 : 0 ≤ n831) (g1 : n831 ≤ (((List.length t832.1) : Nat) : Int)) (g2 : (((List.length t832.1) : Nat) : Int) < n831 + m) (g3 : t832.1.length ≤ 1000000) (g4 : ∀ j : Int, 0 ≤ j → j < n831 → ((List.getD t832.1 (Int.toNat j) ((0 : Int), ((0 : Int), ((⟨#[]⟩ : ByteArray), ((0 : Int), ([], ((0 : Int), (false, ((0 : Int), ((0 : Int), ([], ([], ([], ([], ())))))))))))))).2.2.2.2.2.2.2.2.2.2.1.length ≤ 80 ∧ (List.getD t832.1 (Int.toNat j) ((0 : Int), ((0 : Int), ((⟨#[]⟩ : ByteArray), ((0 : Int), ([], ((0 : Int), (false, ((0 : Int), ((0 : Int), ([], ([], ([], ([], ())))))))))))))).2.2.2.2.2.2.2.2.2.2.2.2.1.length ≤ 80 ∧ (List.getD t832.1 (Int.toNat j) ((0 : Int), ((0 : Int), ((⟨#[]⟩ : ByteArray), ((0 : Int), ([], ((0 : Int), (false, ((0 : Int), ((0 : Int), ([], ([], ([], ([], ())))))))))))))).2.2.2.2.1.length ≤ 80 ∧ (List.getD t832.1 (Int.toNat j) ((0 : Int), ((0 : Int), ((⟨#[]⟩ : ByteArray), ((0 : Int), ([], ((0 : Int), (false, ((0 : Int), ((0 : Int), ([], ([], ([], ([], ())))))))))))))).2.2.2.2.2.2.2.2.2.2.2.1.length ≤ 80 ∧ (List.getD t832.1 (Int.toNat j) ((0 : Int), ((0 : Int), ((⟨#[]⟩ : ByteArray), ((0 : Int), ([], ((0 : Int), (false, ((0 : Int), ((0 : Int), ([], ([], ([], ([], ())))))))))))))).2.2.2.2.2.2.2.2.2.1.length ≤ 80))
    (h1 : ∀ (a0 : Bool), (a0 = false) → T P (H1 a0))
    (h2 : ∀ (a0 : Prog), t832 = a0 → (∀ j : Int, 0 ≤ j → j < (t832.1.length : Int) → ((List.getD t832.1 (Int.toNat j) ((0 : Int), ((0 : Int), ((⟨#[]⟩ : ByteArray), ((0 : Int), ([], ((0 : Int), (false, ((0 : Int), ((0 : Int), ([], ([], ([], ([], ())))))))))))))).2.2.2.2.2.2.2.2.2.2.1.length ≤ 80 ∧ (List.getD t832.1 (Int.toNat j) ((0 : Int), ((0 : Int), ((⟨#[]⟩ : ByteArray), ((0 : Int), ([], ((0 : Int), (false, ((0 : Int), ((0 : Int), ([], ([], ([], ([], ())))))))))))))).2.2.2.2.2.2.2.2.2.2.2.2.1.length ≤ 80 ∧ (List.getD t832.1 (Int.toNat j) ((0 : Int), ((0 : Int), ((⟨#[]⟩ : ByteArray), ((0 : Int), ([], ((0 : Int), (false, ((0 : Int), ((0 : Int), ([], ([], ([], ([], ())))))))))))))).2.2.2.2.1.length ≤ 80 ∧ (List.getD t832.1 (Int.toNat j) ((0 : Int), ((0 : Int), ((⟨#[]⟩ : ByteArray), ((0 : Int), ([], ((0 : Int), (false, ((0 : Int), ((0 : Int), ([], ([], ([], ([], ())))))))))))))).2.2.2.2.2.2.2.2.2.2.2.1.length ≤ 80 ∧ (List.getD t832.1 (Int.toNat j) ((0 : Int), ((0 : Int), ((⟨#[]⟩ : ByteArray), ((0 : Int), ([], ((0 : Int), (false, ((0 : Int), ((0 : Int), ([], ([], ([], ([], ())))))))))))))).2.2.2.2.2.2.2.2.2.1.length ≤ 80)) → T P (H2 a0)),
    T P (fun K => ref25_Few_L0 m n831 t832 (fun a0 => H1 a0 K) (fun a0 => H2 a0 K)) := by
  intro m
  induction m with
  | zero => intros; omega
  | succ m ih =>
    intro n831 t832 H1 H2 g0 g1 g2 g3 g4 h1 h2
    rw [ref25_Few_L0]
    unfold ref25_Few_L0.body
    have := wr64 ((n831 + (1 : Int)))
    repeat' first
      | (intro q; try subst q)
      | ((with_reducible refine h1 _ ?_) <;> try (first | exact stepJ (by assumption) (by first | assumption | (refine ⟨?_, ?_, ?_, ?_, ?_⟩ <;> omega) | (refine ⟨?_, ?_, ?_⟩ <;> omega)) (by omega) | (intro j hj1 hj2; exact g4 j hj1 (by omega)) | (intro j hj1 hj2; omega) | with_reducible rfl | assumption | omega | solve_by_elim [szL_get, szO_f, szO_d, szO_s]))
      | ((with_reducible refine h2 _ ?_ ?_) <;> try (first | exact stepJ (by assumption) (by first | assumption | (refine ⟨?_, ?_, ?_, ?_, ?_⟩ <;> omega) | (refine ⟨?_, ?_, ?_⟩ <;> omega)) (by omega) | (intro j hj1 hj2; exact g4 j hj1 (by omega)) | (intro j hj1 hj2; omega) | with_reducible rfl | assumption | omega | solve_by_elim [szL_get, szO_f, szO_d, szO_s]))
      | ((with_reducible refine tna ?_ ?_ ?_); omega; omega)
      | ((with_reducible refine tnb ?_ ?_); focus (first | omega | (first | exact stepJ (by assumption) (by first | assumption | (refine ⟨?_, ?_, ?_, ?_, ?_⟩ <;> omega) | (refine ⟨?_, ?_, ?_⟩ <;> omega)) (by omega) | (intro j hj1 hj2; exact g4 j hj1 (by omega)) | (intro j hj1 hj2; omega) | with_reducible rfl | assumption | omega | solve_by_elim [szL_get, szO_f, szO_d, szO_s])))
      | ((with_reducible refine tn ?_ ?_); assumption)
      | with_reducible refine tct ?_
      | with_reducible refine tcf ?_
      | with_reducible refine tcn ?_
      | with_reducible refine tcd ?_ ?_
      | with_reducible refine tce ?_ ?_
      | with_reducible refine tcne ?_ ?_
      | with_reducible refine tc ?_ ?_
      | ((with_reducible refine ih ?_ ?_ ?_ ?_ ?_ h1 h2) <;> try (first | exact stepJ (by assumption) (by first | assumption | (refine ⟨?_, ?_, ?_, ?_, ?_⟩ <;> omega) | (refine ⟨?_, ?_, ?_⟩ <;> omega)) (by omega) | (intro j hj1 hj2; exact g4 j hj1 (by omega)) | (intro j hj1 hj2; omega) | with_reducible rfl | assumption | omega | solve_by_elim [szL_get, szO_f, szO_d, szO_s]))

theorem ref25_Few_L2_c : ∀ {m : Nat} {n835 : Int} {t836 : Prog} {H1 : Bool → (ι → O) → O} {H2 : Prog → (ι → O) → O} (g0 : 0 ≤ n835) (g1 : n835 ≤ (((List.length t836.2.1) : Nat) : Int)) (g2 : (((List.length t836.2.1) : Nat) : Int) < n835 + m) (g3 : t836.2.1.length ≤ 1000000) (g4 : ∀ j : Int, 0 ≤ j → j < n835 → ((List.getD t836.2.1 (Int.toNat j) ((0 : Int), ((0 : Int), ((⟨#[]⟩ : ByteArray), ((0 : Int), ([], ([], ([], ())))))))).2.2.2.2.1.length ≤ 80 ∧ (List.getD t836.2.1 (Int.toNat j) ((0 : Int), ((0 : Int), ((⟨#[]⟩ : ByteArray), ((0 : Int), ([], ([], ([], ())))))))).2.2.2.2.2.2.1.length ≤ 80 ∧ (List.getD t836.2.1 (Int.toNat j) ((0 : Int), ((0 : Int), ((⟨#[]⟩ : ByteArray), ((0 : Int), ([], ([], ([], ())))))))).2.2.2.2.2.1.length ≤ 80))
    (h1 : ∀ (a0 : Bool), (a0 = false) → T P (H1 a0))
    (h2 : ∀ (a0 : Prog), t836 = a0 → (∀ j : Int, 0 ≤ j → j < (t836.2.1.length : Int) → ((List.getD t836.2.1 (Int.toNat j) ((0 : Int), ((0 : Int), ((⟨#[]⟩ : ByteArray), ((0 : Int), ([], ([], ([], ())))))))).2.2.2.2.1.length ≤ 80 ∧ (List.getD t836.2.1 (Int.toNat j) ((0 : Int), ((0 : Int), ((⟨#[]⟩ : ByteArray), ((0 : Int), ([], ([], ([], ())))))))).2.2.2.2.2.2.1.length ≤ 80 ∧ (List.getD t836.2.1 (Int.toNat j) ((0 : Int), ((0 : Int), ((⟨#[]⟩ : ByteArray), ((0 : Int), ([], ([], ([], ())))))))).2.2.2.2.2.1.length ≤ 80)) → T P (H2 a0)),
    T P (fun K => ref25_Few_L2 m n835 t836 (fun a0 => H1 a0 K) (fun a0 => H2 a0 K)) := by
  intro m
  induction m with
  | zero => intros; omega
  | succ m ih =>
    intro n835 t836 H1 H2 g0 g1 g2 g3 g4 h1 h2
    rw [ref25_Few_L2]
    unfold ref25_Few_L2.body
    have := wr64 ((n835 + (1 : Int)))
    repeat' first
      | (intro q; try subst q)
      | ((with_reducible refine h1 _ ?_) <;> try (first | exact stepJ (by assumption) (by first | assumption | (refine ⟨?_, ?_, ?_, ?_, ?_⟩ <;> omega) | (refine ⟨?_, ?_, ?_⟩ <;> omega)) (by omega) | (intro j hj1 hj2; exact g4 j hj1 (by omega)) | (intro j hj1 hj2; omega) | with_reducible rfl | assumption | omega | solve_by_elim [szL_get, szO_f, szO_d, szO_s]))
      | ((with_reducible refine h2 _ ?_ ?_) <;> try (first | exact stepJ (by assumption) (by first | assumption | (refine ⟨?_, ?_, ?_, ?_, ?_⟩ <;> omega) | (refine ⟨?_, ?_, ?_⟩ <;> omega)) (by omega) | (intro j hj1 hj2; exact g4 j hj1 (by omega)) | (intro j hj1 hj2; omega) | with_reducible rfl | assumption | omega | solve_by_elim [szL_get, szO_f, szO_d, szO_s]))
      | ((with_reducible refine tna ?_ ?_ ?_); omega; omega)
      | ((with_reducible refine tnb ?_ ?_); focus (first | omega | (first | exact stepJ (by assumption) (by first | assumption | (refine ⟨?_, ?_, ?_, ?_, ?_⟩ <;> omega) | (refine ⟨?_, ?_, ?_⟩ <;> omega)) (by omega) | (intro j hj1 hj2; exact g4 j hj1 (by omega)) | (intro j hj1 hj2; omega) | with_reducible rfl | assumption | omega | solve_by_elim [szL_get, szO_f, szO_d, szO_s])))
      | ((with_reducible refine tn ?_ ?_); assumption)
      | with_reducible refine tct ?_
      | with_reducible refine tcf ?_
      | with_reducible refine tcn ?_
      | with_reducible refine tcd ?_ ?_
      | with_reducible refine tce ?_ ?_
      | with_reducible refine tcne ?_ ?_
      | with_reducible refine tc ?_ ?_
      | ((with_reducible refine ih ?_ ?_ ?_ ?_ ?_ h1 h2) <;> try (first | exact stepJ (by assumption) (by first | assumption | (refine ⟨?_, ?_, ?_, ?_, ?_⟩ <;> omega) | (refine ⟨?_, ?_, ?_⟩ <;> omega)) (by omega) | (intro j hj1 hj2; exact g4 j hj1 (by omega)) | (intro j hj1 hj2; omega) | with_reducible rfl | assumption | omega | solve_by_elim [szL_get, szO_f, szO_d, szO_s]))

theorem ref25_Few_c {t830 : Prog} {H1 : Bool → (ι → O) → O} (g0 : t830.1.length ≤ 1000000) (g1 : t830.2.1.length ≤ 1000000)
    (h1 : ∀ (a0 : Bool), (a0 = true → few25 t830) → T P (H1 a0)) :
    T P (fun K => ref25_Few t830 (fun a0 => H1 a0 K)) := by
  unfold ref25_Few ref25_Few.body
  have := rb
  repeat' first
    | (intro q; try subst q)
    | ((with_reducible refine h1 _ ?_) <;> try (first | (intro h; contradiction) | (intro j hj1 hj2; omega) | (intro h; have := of_decide_eq_true h; exact ⟨by omega, by omega, all_of_getD (by assumption), all_of_getD (by assumption)⟩) | with_reducible rfl | assumption | omega | solve_by_elim [szL_get, szO_f, szO_d, szO_s]))
    | ((with_reducible refine tna ?_ ?_ ?_); omega; omega)
    | ((with_reducible refine tnb ?_ ?_); focus (first | omega | (first | (intro h; contradiction) | (intro j hj1 hj2; omega) | (intro h; have := of_decide_eq_true h; exact ⟨by omega, by omega, all_of_getD (by assumption), all_of_getD (by assumption)⟩) | with_reducible rfl | assumption | omega | solve_by_elim [szL_get, szO_f, szO_d, szO_s])))
    | ((with_reducible refine tn ?_ ?_); assumption)
    | with_reducible refine tct ?_
    | with_reducible refine tcf ?_
    | with_reducible refine tcn ?_
    | with_reducible refine tcd ?_ ?_
    | with_reducible refine tce ?_ ?_
    | with_reducible refine tcne ?_ ?_
    | with_reducible refine tc ?_ ?_
    | ((with_reducible refine ref25_Few_L0_c ?_ ?_ ?_ ?_ ?_ ?_ ?_) <;> try (first | (intro h; contradiction) | (intro j hj1 hj2; omega) | (intro h; have := of_decide_eq_true h; exact ⟨by omega, by omega, all_of_getD (by assumption), all_of_getD (by assumption)⟩) | with_reducible rfl | assumption | omega | solve_by_elim [szL_get, szO_f, szO_d, szO_s]))
    | ((with_reducible refine ref25_Few_L2_c ?_ ?_ ?_ ?_ ?_ ?_ ?_) <;> try (first | (intro h; contradiction) | (intro j hj1 hj2; omega) | (intro h; have := of_decide_eq_true h; exact ⟨by omega, by omega, all_of_getD (by assumption), all_of_getD (by assumption)⟩) | with_reducible rfl | assumption | omega | solve_by_elim [szL_get, szO_f, szO_d, szO_s]))

theorem law32_Few_c {ts844 : List Obj} {t845 : Plan} {H1 : Prog → Bool → (ι → O) → O} (g0 : okLs ts844)
    (h1 : ∀ (a0 : Prog) (a1 : Bool), (a1 = true → few25 a0) → (a1 = true → idD a0.1) → T P (H1 a0 a1)) :
    T P (fun K => law32_Few ts844 t845 (fun a0 a1 => H1 a0 a1 K)) := by
  unfold law32_Few law32_Few.body
  repeat' first
    | (intro q; try subst q)
    | ((with_reducible refine h1 _ _ ?_ ?_) <;> try (first | (intro h; contradiction) | decide | (intro _; assumption) | with_reducible rfl | assumption | omega | solve_by_elim [szL_get, szO_f, szO_d, szO_s]))
    | ((with_reducible refine tna ?_ ?_ ?_); omega; omega)
    | ((with_reducible refine tnb ?_ ?_); focus (first | omega | (first | (intro h; contradiction) | decide | (intro _; assumption) | with_reducible rfl | assumption | omega | solve_by_elim [szL_get, szO_f, szO_d, szO_s])))
    | ((with_reducible refine tn ?_ ?_); assumption)
    | with_reducible refine tct ?_
    | with_reducible refine tcf ?_
    | with_reducible refine tcn ?_
    | with_reducible refine tcd ?_ ?_
    | with_reducible refine tce ?_ ?_
    | with_reducible refine tcne ?_ ?_
    | with_reducible refine tc ?_ ?_
    | ((with_reducible refine ref24_Few_c ?_ ?_) <;> try (first | (intro h; contradiction) | decide | (intro _; assumption) | with_reducible rfl | assumption | omega | solve_by_elim [szL_get, szO_f, szO_d, szO_s]))
    | ((with_reducible refine ref24_Bind_c ?_ ?_ ?_) <;> try (first | (intro h; contradiction) | decide | (intro _; assumption) | with_reducible rfl | assumption | omega | solve_by_elim [szL_get, szO_f, szO_d, szO_s]))
    | ((with_reducible refine ref25_Few_c ?_ ?_ ?_) <;> try (first | (intro h; contradiction) | decide | (intro _; assumption) | with_reducible rfl | assumption | omega | solve_by_elim [szL_get, szO_f, szO_d, szO_s]))

theorem table_Sourcefn1_c {t861 : Int × Int × Int × Int × Int × Int × Unit} {n862 : Int} {H1 : Bool → Int → (ι → O) → O} 
    (h1 : ∀ (a0 : Bool) (a1 : Int), n862 = a1 → (a0 = hitB t861 n862) → T P (H1 a0 a1)) :
    T P (fun K => table_Sourcefn1 t861 n862 (fun a0 a1 => H1 a0 a1 K)) := by
  unfold table_Sourcefn1 table_Sourcefn1.body
  repeat' first
    | (intro q; try subst q)
    | ((with_reducible refine h1 _ _ ?_ ?_) <;> try (first | exact hit_r (by assumption) | exact hit_f (by assumption) | with_reducible rfl | assumption | omega | solve_by_elim [szL_get, szO_f, szO_d, szO_s]))
    | ((with_reducible refine tna ?_ ?_ ?_); omega; omega)
    | ((with_reducible refine tnb ?_ ?_); focus (first | omega | (first | exact hit_r (by assumption) | exact hit_f (by assumption) | with_reducible rfl | assumption | omega | solve_by_elim [szL_get, szO_f, szO_d, szO_s])))
    | ((with_reducible refine tn ?_ ?_); assumption)
    | with_reducible refine tct ?_
    | with_reducible refine tcf ?_
    | with_reducible refine tcn ?_
    | with_reducible refine tcd ?_ ?_
    | with_reducible refine tce ?_ ?_
    | with_reducible refine tcne ?_ ?_
    | with_reducible refine tc ?_ ?_

theorem slices_IndexFunc_api_Fn_api_Fn_L0_c : ∀ {m : Nat} {ts857 : List (Int × Int × Int × Int × Int × Int × Unit)} {n858 : Int} {n859 : Int} {n860 : Int} {H1 : Int → Int → (ι → O) → O} {H2 : Int → (ι → O) → O} (g0 : 0 ≤ n859) (g1 : n859 ≤ n858) (g2 : n858 ≤ 1000000) (g3 : n858 < n859 + m) (g4 : ts857.length ≤ 1000000) (g5 : n858 = (ts857.length : Int)) (g6 : sI (List.drop (Int.toNat n859) ts857) n859 n860 = sI ts857 0 n860)
    (h1 : ∀ (a0 : Int) (a1 : Int), n860 = a1 → (a0 = sI ts857 0 n860) → (0 ≤ a0) → (a0 < (ts857.length : Int)) → T P (H1 a0 a1))
    (h2 : ∀ (a0 : Int), n860 = a0 → (sI ts857 0 n860 = -1) → T P (H2 a0)),
    T P (fun K => slices_IndexFunc_api_Fn_api_Fn_L0 m ts857 n858 n859 n860 (fun a0 a1 => H1 a0 a1 K) (fun a0 => H2 a0 K)) := by
  intro m
  induction m with
  | zero => intros; omega
  | succ m ih =>
    intro ts857 n858 n859 n860 H1 H2 g0 g1 g2 g3 g4 g5 g6 h1 h2
    rw [slices_IndexFunc_api_Fn_api_Fn_L0]
    unfold slices_IndexFunc_api_Fn_api_Fn_L0.body
    have := wr64 ((n859 + (1 : Int)))
    repeat' first
      | (intro q; try subst q)
      | ((with_reducible refine h1 _ _ ?_ ?_ ?_ ?_) <;> try (first | exact si_hit (by assumption) (by omega) (by omega) (by assumption) | exact si_next (by assumption) (by assumption) (by omega) (by omega) (by assumption) | exact si_end (by assumption) (by omega) | with_reducible rfl | assumption | omega | solve_by_elim [szL_get, szO_f, szO_d, szO_s]))
      | ((with_reducible refine h2 _ ?_ ?_) <;> try (first | exact si_hit (by assumption) (by omega) (by omega) (by assumption) | exact si_next (by assumption) (by assumption) (by omega) (by omega) (by assumption) | exact si_end (by assumption) (by omega) | with_reducible rfl | assumption | omega | solve_by_elim [szL_get, szO_f, szO_d, szO_s]))
      | ((with_reducible refine tna ?_ ?_ ?_); omega; omega)
      | ((with_reducible refine tnb ?_ ?_); focus (first | omega | (first | exact si_hit (by assumption) (by omega) (by omega) (by assumption) | exact si_next (by assumption) (by assumption) (by omega) (by omega) (by assumption) | exact si_end (by assumption) (by omega) | with_reducible rfl | assumption | omega | solve_by_elim [szL_get, szO_f, szO_d, szO_s])))
      | ((with_reducible refine tn ?_ ?_); assumption)
      | with_reducible refine tct ?_
      | with_reducible refine tcf ?_
      | with_reducible refine tcn ?_
      | with_reducible refine tcd ?_ ?_
      | with_reducible refine tce ?_ ?_
      | with_reducible refine tcne ?_ ?_
      | with_reducible refine tc ?_ ?_
      | ((with_reducible refine ih ?_ ?_ ?_ ?_ ?_ ?_ ?_ h1 h2) <;> try (first | exact si_hit (by assumption) (by omega) (by omega) (by assumption) | exact si_next (by assumption) (by assumption) (by omega) (by omega) (by assumption) | exact si_end (by assumption) (by omega) | with_reducible rfl | assumption | omega | solve_by_elim [szL_get, szO_f, szO_d, szO_s]))
      | ((with_reducible refine table_Sourcefn1_c ?_))

theorem slices_IndexFunc_api_Fn_api_Fn_c {ts855 : List (Int × Int × Int × Int × Int × Int × Unit)} {n856 : Int} {H1 : Int → Int → (ι → O) → O} (g0 : ts855.length ≤ 1000000)
    (h1 : ∀ (a0 : Int) (a1 : Int), n856 = a1 → (a0 = sI ts855 0 n856) → (-1 ≤ a0) → (a0 < (ts855.length : Int)) → T P (H1 a0 a1)) :
    T P (fun K => slices_IndexFunc_api_Fn_api_Fn ts855 n856 (fun a0 a1 => H1 a0 a1 K)) := by
  unfold slices_IndexFunc_api_Fn_api_Fn slices_IndexFunc_api_Fn_api_Fn.body
  have := rb
  repeat' first
    | (intro q; try subst q)
    | ((with_reducible refine h1 _ _ ?_ ?_ ?_ ?_) <;> try (first | exact rfl | exact Eq.symm (by assumption) | with_reducible rfl | assumption | omega | solve_by_elim [szL_get, szO_f, szO_d, szO_s]))
    | ((with_reducible refine tna ?_ ?_ ?_); omega; omega)
    | ((with_reducible refine tnb ?_ ?_); focus (first | omega | (first | exact rfl | exact Eq.symm (by assumption) | with_reducible rfl | assumption | omega | solve_by_elim [szL_get, szO_f, szO_d, szO_s])))
    | ((with_reducible refine tn ?_ ?_); assumption)
    | with_reducible refine tct ?_
    | with_reducible refine tcf ?_
    | with_reducible refine tcn ?_
    | with_reducible refine tcd ?_ ?_
    | with_reducible refine tce ?_ ?_
    | with_reducible refine tcne ?_ ?_
    | with_reducible refine tc ?_ ?_
    | ((with_reducible refine slices_IndexFunc_api_Fn_api_Fn_L0_c ?_ ?_ ?_ ?_ ?_ ?_ ?_ ?_ ?_) <;> try (first | exact rfl | exact Eq.symm (by assumption) | with_reducible rfl | assumption | omega | solve_by_elim [szL_get, szO_f, szO_d, szO_s]))

theorem table_Source_c {ts853 : List (Int × Int × Int × Int × Int × Int × Unit)} {n854 : Int} {H1 : Int → Int → Bool → (ι → O) → O} (g0 : ts853.length ≤ 1000000)
    (h1 : ∀ (a0 : Int) (a1 : Int) (a2 : Bool), (a0 = (srcV ts853 n854).1) → (a1 = (srcV ts853 n854).2.1) → (a2 = (srcV ts853 n854).2.2) → T P (H1 a0 a1 a2)) :
    T P (fun K => table_Source ts853 n854 (fun a0 a1 a2 => H1 a0 a1 a2 K)) := by
  unfold table_Source table_Source.body
  repeat' first
    | (intro q; try subst q)
    | ((with_reducible refine h1 _ _ _ ?_ ?_ ?_) <;> try (first | (rw [src_no (by assumption)]) | (rw [src_yes (by omega)]) | (rw [src_no (by assumption)]; rfl) | (rw [src_yes (by omega)]; rfl) | with_reducible rfl | assumption | omega | solve_by_elim [szL_get, szO_f, szO_d, szO_s]))
    | ((with_reducible refine tna ?_ ?_ ?_); omega; omega)
    | ((with_reducible refine tnb ?_ ?_); focus (first | omega | (first | (rw [src_no (by assumption)]) | (rw [src_yes (by omega)]) | (rw [src_no (by assumption)]; rfl) | (rw [src_yes (by omega)]; rfl) | with_reducible rfl | assumption | omega | solve_by_elim [szL_get, szO_f, szO_d, szO_s])))
    | ((with_reducible refine tn ?_ ?_); assumption)
    | with_reducible refine tct ?_
    | with_reducible refine tcf ?_
    | with_reducible refine tcn ?_
    | with_reducible refine tcd ?_ ?_
    | with_reducible refine tce ?_ ?_
    | with_reducible refine tcne ?_ ?_
    | with_reducible refine tc ?_ ?_
    | ((with_reducible refine slices_IndexFunc_api_Fn_api_Fn_c ?_ ?_) <;> try (first | (rw [src_no (by assumption)]) | (rw [src_yes (by omega)]) | (rw [src_no (by assumption)]; rfl) | (rw [src_yes (by omega)]; rfl) | with_reducible rfl | assumption | omega | solve_by_elim [szL_get, szO_f, szO_d, szO_s]))

theorem ref33_Source_L0_c : ∀ {m : Nat} {ts875 : List (Int × Int × Int × Int × Int × Int × Unit)} {n876 : Int} {n877 : Int} {H1 : Int → Int → Bool → (ι → O) → O} {H2 : (ι → O) → O} (g0 : 0 ≤ n877) (g1 : n877 ≤ (((List.length ts875) : Nat) : Int)) (g2 : (((List.length ts875) : Nat) : Int) < n877 + m) (g3 : ts875.length ≤ 1000000) (g4 : sI (List.drop (Int.toNat n877) ts875) n877 n876 = sI ts875 0 n876)
    (h1 : ∀ (a0 : Int) (a1 : Int) (a2 : Bool), (a0 = sI ts875 0 n876) → (0 ≤ a0) → (a1 = IntKind.wrap .i64 (n876 - (List.getD ts875 (Int.toNat a0) ((0 : Int), ((0 : Int), ((0 : Int), ((0 : Int), ((0 : Int), ((0 : Int), ()))))))).2.2.2.1)) → (a2 = true) → T P (H1 a0 a1 a2))
    (h2 : (sI ts875 0 n876 = -1) → T P H2),
    T P (fun K => ref33_Source_L0 m ts875 n876 n877 (fun a0 a1 a2 => H1 a0 a1 a2 K) (H2 K)) := by
  intro m
  induction m with
  | zero => intros; omega
  | succ m ih =>
    intro ts875 n876 n877 H1 H2 g0 g1 g2 g3 g4 h1 h2
    rw [ref33_Source_L0]
    unfold ref33_Source_L0.body
    have := wr64 ((n877 + (1 : Int)))
    have := wr64 ((n876 - (List.getD ts875 (Int.toNat n877) ((0 : Int), ((0 : Int), ((0 : Int), ((0 : Int), ((0 : Int), ((0 : Int), ()))))))).2.2.2.1))
    repeat' first
      | (intro q; try subst q)
      | ((with_reducible refine h1 _ _ _ ?_ ?_ ?_ ?_) <;> try (first | exact si_hit (by assumption) (by omega) (by omega) (hit_yes (by assumption) (by assumption)) | exact si_next (by assumption) (by assumption) (by omega) (by omega) (hit_no1 (by assumption)) | exact si_next (by assumption) (by assumption) (by omega) (by omega) (hit_no2 (by assumption)) | exact si_end (by assumption) (by omega) | with_reducible rfl | assumption | omega | solve_by_elim [szL_get, szO_f, szO_d, szO_s]))
      | ((with_reducible refine h2 ?_) <;> try (first | exact si_hit (by assumption) (by omega) (by omega) (hit_yes (by assumption) (by assumption)) | exact si_next (by assumption) (by assumption) (by omega) (by omega) (hit_no1 (by assumption)) | exact si_next (by assumption) (by assumption) (by omega) (by omega) (hit_no2 (by assumption)) | exact si_end (by assumption) (by omega) | with_reducible rfl | assumption | omega | solve_by_elim [szL_get, szO_f, szO_d, szO_s]))
      | ((with_reducible refine tna ?_ ?_ ?_); omega; omega)
      | ((with_reducible refine tnb ?_ ?_); focus (first | omega | (first | exact si_hit (by assumption) (by omega) (by omega) (hit_yes (by assumption) (by assumption)) | exact si_next (by assumption) (by assumption) (by omega) (by omega) (hit_no1 (by assumption)) | exact si_next (by assumption) (by assumption) (by omega) (by omega) (hit_no2 (by assumption)) | exact si_end (by assumption) (by omega) | with_reducible rfl | assumption | omega | solve_by_elim [szL_get, szO_f, szO_d, szO_s])))
      | ((with_reducible refine tn ?_ ?_); assumption)
      | with_reducible refine tct ?_
      | with_reducible refine tcf ?_
      | with_reducible refine tcn ?_
      | with_reducible refine tcd ?_ ?_
      | with_reducible refine tce ?_ ?_
      | with_reducible refine tcne ?_ ?_
      | with_reducible refine tc ?_ ?_
      | ((with_reducible refine ih ?_ ?_ ?_ ?_ ?_ h1 h2) <;> try (first | exact si_hit (by assumption) (by omega) (by omega) (hit_yes (by assumption) (by assumption)) | exact si_next (by assumption) (by assumption) (by omega) (by omega) (hit_no1 (by assumption)) | exact si_next (by assumption) (by assumption) (by omega) (by omega) (hit_no2 (by assumption)) | exact si_end (by assumption) (by omega) | with_reducible rfl | assumption | omega | solve_by_elim [szL_get, szO_f, szO_d, szO_s]))

theorem ref33_Source_c {ts873 : List (Int × Int × Int × Int × Int × Int × Unit)} {n874 : Int} {H1 : Int → Int → Bool → (ι → O) → O} (g0 : ts873.length ≤ 1000000)
    (h1 : ∀ (a0 : Int) (a1 : Int) (a2 : Bool), (a0 = (srcV ts873 n874).1) → (a1 = (srcV ts873 n874).2.1) → (a2 = (srcV ts873 n874).2.2) → T P (H1 a0 a1 a2)) :
    T P (fun K => ref33_Source ts873 n874 (fun a0 a1 a2 => H1 a0 a1 a2 K)) := by
  unfold ref33_Source ref33_Source.body
  have := rb
  repeat' first
    | (intro q; try subst q)
    | ((with_reducible refine h1 _ _ _ ?_ ?_ ?_) <;> try (first | exact rfl | (rw [src_no (by omega)]) | (rw [src_yes (by omega)]) | (rw [src_no (by omega)]; rfl) | (rw [src_yes (by omega)]; rfl) | with_reducible rfl | assumption | omega | solve_by_elim [szL_get, szO_f, szO_d, szO_s]))
    | ((with_reducible refine tna ?_ ?_ ?_); omega; omega)
    | ((with_reducible refine tnb ?_ ?_); focus (first | omega | (first | exact rfl | (rw [src_no (by omega)]) | (rw [src_yes (by omega)]) | (rw [src_no (by omega)]; rfl) | (rw [src_yes (by omega)]; rfl) | with_reducible rfl | assumption | omega | solve_by_elim [szL_get, szO_f, szO_d, szO_s])))
    | ((with_reducible refine tn ?_ ?_); assumption)
    | with_reducible refine tct ?_
    | with_reducible refine tcf ?_
    | with_reducible refine tcn ?_
    | with_reducible refine tcd ?_ ?_
    | with_reducible refine tce ?_ ?_
    | with_reducible refine tcne ?_ ?_
    | with_reducible refine tc ?_ ?_
    | ((with_reducible refine ref33_Source_L0_c ?_ ?_ ?_ ?_ ?_ ?_ ?_) <;> try (first | exact rfl | (rw [src_no (by omega)]) | (rw [src_yes (by omega)]) | (rw [src_no (by omega)]; rfl) | (rw [src_yes (by omega)]; rfl) | with_reducible rfl | assumption | omega | solve_by_elim [szL_get, szO_f, szO_d, szO_s]))

theorem table_rows_c {t886 : Prog} {t887 : Plan} {H1 : Prog → Plan → (ι → O) → O} 
    (h1 : ∀ (a0 : Prog) (a1 : Plan), t886 = a0 → t887 = a1 → T P (H1 a0 a1)) :
    T P (fun K => table_rows t886 t887 (fun a0 a1 => H1 a0 a1 K)) := by
  unfold table_rows table_rows.body
  repeat' first
    | (intro q; try subst q)
    | ((with_reducible refine h1 _ _ ?_ ?_) <;> try (first | with_reducible rfl | assumption | omega | solve_by_elim [szL_get, szO_f, szO_d, szO_s]))
    | ((with_reducible refine tna ?_ ?_ ?_); omega; omega)
    | ((with_reducible refine tnb ?_ ?_); focus (first | omega | (first | with_reducible rfl | assumption | omega | solve_by_elim [szL_get, szO_f, szO_d, szO_s])))
    | ((with_reducible refine tn ?_ ?_); assumption)
    | with_reducible refine tct ?_
    | with_reducible refine tcf ?_
    | with_reducible refine tcn ?_
    | with_reducible refine tcd ?_ ?_
    | with_reducible refine tce ?_ ?_
    | with_reducible refine tcne ?_ ?_
    | with_reducible refine tc ?_ ?_

theorem table_Rows_round0_c {t892 : Int × Int × Bool × Int × Unit} {H1 : Bool → (List (Int × Int × Bool × Int × Unit)) → (ι → O) → O} 
    (h1 : ∀ (a0 : Bool) (a1 : List (Int × Int × Bool × Int × Unit)), (a0 = true) → (a1 = [t892]) → T P (H1 a0 a1)) :
    T P (fun K => table_Rows_round0 t892 (fun a0 a1 => H1 a0 a1 K)) := by
  unfold table_Rows_round0 table_Rows_round0.body
  repeat' first
    | (intro q; try subst q)
    | ((with_reducible refine h1 _ _ ?_ ?_) <;> try (first | exact rfl | with_reducible rfl | assumption | omega | solve_by_elim [szL_get, szO_f, szO_d, szO_s]))
    | ((with_reducible refine tna ?_ ?_ ?_); omega; omega)
    | ((with_reducible refine tnb ?_ ?_); focus (first | omega | (first | exact rfl | with_reducible rfl | assumption | omega | solve_by_elim [szL_get, szO_f, szO_d, szO_s])))
    | ((with_reducible refine tn ?_ ?_); assumption)
    | with_reducible refine tct ?_
    | with_reducible refine tcf ?_
    | with_reducible refine tcn ?_
    | with_reducible refine tcd ?_ ?_
    | with_reducible refine tce ?_ ?_
    | with_reducible refine tcne ?_ ?_
    | with_reducible refine tc ?_ ?_

theorem table_Rows_round0v1_c {t895 : Int × Int × Bool × Int × Unit} {ts896 : List (Int × Int × Bool × Int × Unit)} {H1 : Bool → (List (Int × Int × Bool × Int × Unit)) → (ι → O) → O} (g0 : ts896.length ≤ 1000000)
    (h1 : ∀ (a0 : Bool) (a1 : List (Int × Int × Bool × Int × Unit)), (a0 = true) → (a1 = ts896 ++ [t895]) → T P (H1 a0 a1)) :
    T P (fun K => table_Rows_round0v1 t895 ts896 (fun a0 a1 => H1 a0 a1 K)) := by
  unfold table_Rows_round0v1 table_Rows_round0v1.body
  repeat' first
    | (intro q; try subst q)
    | ((with_reducible refine h1 _ _ ?_ ?_) <;> try (first | exact rfl | (simp only [List.length_append, List.length_cons, List.length_nil] <;> omega) | with_reducible rfl | assumption | omega | solve_by_elim [szL_get, szO_f, szO_d, szO_s]))
    | ((with_reducible refine tna ?_ ?_ ?_); omega; omega)
    | ((with_reducible refine tnb ?_ ?_); focus (first | omega | (first | exact rfl | (simp only [List.length_append, List.length_cons, List.length_nil] <;> omega) | with_reducible rfl | assumption | omega | solve_by_elim [szL_get, szO_f, szO_d, szO_s])))
    | ((with_reducible refine tn ?_ ?_); assumption)
    | with_reducible refine tct ?_
    | with_reducible refine tcf ?_
    | with_reducible refine tcn ?_
    | with_reducible refine tcd ?_ ?_
    | with_reducible refine tce ?_ ?_
    | with_reducible refine tcne ?_ ?_
    | with_reducible refine tc ?_ ?_

theorem prologue_has_c {bs : List Bool} {i : Int} {H1 : Bool → (ι → O) → O} (h1 : ∀ b, (0 ≤ i → b = List.getD bs (Int.toNat i) false) → (i < 0 → b = false) → T P (H1 b)) : T P (fun K => prologue_has bs i (fun a => H1 a K)) := by
  unfold prologue_has prologue_has.body
  refine tcd (fun h => tcd (fun h2 => tna (by omega) (by omega) (h1 _ (fun _ => rfl) (fun h => by omega))) (fun h2 => h1 _ (fun _ => (getD_ge (by omega)).symm) (fun _ => rfl))) (fun h => h1 _ (fun h => by omega) (fun _ => rfl))
theorem has_nn {bs : List Bool} {i : Int} {H1 : Bool → (ι → O) → O} (h : 0 ≤ i) (h1 : T P (H1 (List.getD bs (Int.toNat i) false))) : T P (fun K => prologue_has bs i (fun a => H1 a K)) := prologue_has_c (fun b e _ => by rw [e h]; exact h1)

theorem prologue_Size_c {p : Prog} {plan : Plan} {i : Int} {H1 : Int → (ι → O) → O} (h1 : ∀ n, n = sizeV p plan i → T P (H1 n)) : T P (fun K => prologue_Size p plan i (fun a => H1 a K)) := by
  unfold prologue_Size prologue_Size.body
  refine tcn (tcd (fun h => h1 _ (by unfold sizeV; rw [if_neg (by omega)])) (fun h => prologue_has_c (fun b e1 e2 => tcn (tc (fun hb => ?_) (fun hb => ?_)))))
  · have h0 : 0 ≤ i := by
      by_cases h0 : 0 ≤ i
      · exact h0
      · rw [e2 (by omega)] at hb; cases hb
    rw [e1 h0] at hb
    refine tna (by omega) (by omega) (tcd (fun h2 => tna (by omega) (by omega) (tcne (fun h3 => h1 _ ?_) (fun h3 => h1 _ ?_))) (fun h2 => h1 _ ?_))
    · unfold sizeV; rw [if_pos ⟨h0, by omega, hb⟩, if_pos h3]
    · unfold sizeV; rw [if_pos ⟨h0, by omega, hb⟩, if_neg (fun h => h h3)]
    · unfold sizeV; rw [if_pos ⟨h0, by omega, hb⟩, if_neg (fun h => h (getD_ge (by omega)))]
  · refine h1 _ ?_
    unfold sizeV
    rw [if_neg (fun h => ?_)]
    rw [e1 h.1, h.2.2] at hb
    cases hb

theorem table_rowsfn1_L0_L2_c : ∀ {m : Nat} {n913 : Int} {l914 : List Fun_} {n915 : Int} {n916 : Int} {n917 : Int} {n918 : Int} {t919 : Prog} {t920 : Plan} {ts921 : List (Int × Int × Bool × Int × Unit)} {n922 : Int} {n923 : Int} {s924 : ByteArray} {n925 : Int} {l926 : List Int} {n927 : Int} {b928 : Bool} {n929 : Int} {n930 : Int} {l931 : List Line} {l932 : List Instr} {l933 : List Reloc} {l934 : List Int} {H1 : Prog → Plan → (List (Int × Int × Bool × Int × Unit)) → (ι → O) → O} {H2 : Int → (List Fun_) → Int → Int → Prog → Plan → (List (Int × Int × Bool × Int × Unit)) → Int → Int → ByteArray → Int → (List Int) → Int → Bool → Int → Int → (List Line) → (List Instr) → (List Reloc) → (List Int) → (ι → O) → O} (g0 : 0 ≤ n918) (g1 : n918 ≤ n917) (g2 : n917 ≤ 1000000) (g3 : n917 < n918 + m) (g4 : n917 ≤ 100) (g5 : n917 = sizeV t919 t920 n916 - (l932.length : Int)) (g6 : ts921 = rowsV t919 t920 (Int.toNat n916) ++ mapR (fun _ => (n913, 0, false, 0, ())) n918) (g7 : (ts921.length : Int) ≤ 10000 + n918)
    (h1 : ∀ (a0 : Prog) (a1 : Plan) (a2 : List (Int × Int × Bool × Int × Unit)), t919 = a0 → t920 = a1 → (False) → T P (H1 a0 a1 a2))
    (h2 : ∀ (a0 : Int) (a1 : List Fun_) (a2 : Int) (a3 : Int) (a4 : Prog) (a5 : Plan) (a6 : List (Int × Int × Bool × Int × Unit)) (a7 : Int) (a8 : Int) (a9 : ByteArray) (a10 : Int) (a11 : List Int) (a12 : Int) (a13 : Bool) (a14 : Int) (a15 : Int) (a16 : List Line) (a17 : List Instr) (a18 : List Reloc) (a19 : List Int), n913 = a0 → l914 = a1 → n915 = a2 → n916 = a3 → t919 = a4 → t920 = a5 → n922 = a7 → n923 = a8 → s924 = a9 → n925 = a10 → l926 = a11 → n927 = a12 → b928 = a13 → n929 = a14 → n930 = a15 → l931 = a16 → l932 = a17 → l933 = a18 → l934 = a19 → (a6 = padV t919 t920 n916 n913 (l932.length : Int)) → ((a6.length : Int) ≤ 10000 + n917) → T P (H2 a0 a1 a2 a3 a4 a5 a6 a7 a8 a9 a10 a11 a12 a13 a14 a15 a16 a17 a18 a19)),
    T P (fun K => table_rowsfn1_L0_L2 m n913 l914 n915 n916 n917 n918 t919 t920 ts921 n922 n923 s924 n925 l926 n927 b928 n929 n930 l931 l932 l933 l934 (fun a0 a1 a2 => H1 a0 a1 a2 K) (fun a0 a1 a2 a3 a4 a5 a6 a7 a8 a9 a10 a11 a12 a13 a14 a15 a16 a17 a18 a19 => H2 a0 a1 a2 a3 a4 a5 a6 a7 a8 a9 a10 a11 a12 a13 a14 a15 a16 a17 a18 a19 K)) := by
  intro m
  induction m with
  | zero => intros; omega
  | succ m ih =>
    intro n913 l914 n915 n916 n917 n918 t919 t920 ts921 n922 n923 s924 n925 l926 n927 b928 n929 n930 l931 l932 l933 l934 H1 H2 g0 g1 g2 g3 g4 g5 g6 g7 h1 h2
    rw [table_rowsfn1_L0_L2]
    unfold table_rowsfn1_L0_L2.body
    have := wr64 ((n918 + (1 : Int)))
    repeat' first
      | (intro q; try subst q)
      | ((with_reducible refine h1 _ _ _ ?_ ?_ ?_) <;> try (first | exact app_step (by assumption) (by omega) (by omega) | contradiction | exact pad_end (by assumption) (by omega) | (simp only [List.length_append, List.length_cons, List.length_nil] <;> omega) | with_reducible rfl | assumption | omega | solve_by_elim [szL_get, szO_f, szO_d, szO_s]))
      | ((with_reducible refine h2 _ _ _ _ _ _ _ _ _ _ _ _ _ _ _ _ _ _ _ _ ?_ ?_ ?_ ?_ ?_ ?_ ?_ ?_ ?_ ?_ ?_ ?_ ?_ ?_ ?_ ?_ ?_ ?_ ?_ ?_ ?_) <;> try (first | exact app_step (by assumption) (by omega) (by omega) | contradiction | exact pad_end (by assumption) (by omega) | (simp only [List.length_append, List.length_cons, List.length_nil] <;> omega) | with_reducible rfl | assumption | omega | solve_by_elim [szL_get, szO_f, szO_d, szO_s]))
      | ((with_reducible refine tna ?_ ?_ ?_); omega; omega)
      | ((with_reducible refine tnb ?_ ?_); focus (first | omega | (first | exact app_step (by assumption) (by omega) (by omega) | contradiction | exact pad_end (by assumption) (by omega) | (simp only [List.length_append, List.length_cons, List.length_nil] <;> omega) | with_reducible rfl | assumption | omega | solve_by_elim [szL_get, szO_f, szO_d, szO_s])))
      | ((with_reducible refine tn ?_ ?_); assumption)
      | with_reducible refine tct ?_
      | with_reducible refine tcf ?_
      | with_reducible refine tcn ?_
      | with_reducible refine tcd ?_ ?_
      | with_reducible refine tce ?_ ?_
      | with_reducible refine tcne ?_ ?_
      | with_reducible refine tc ?_ ?_
      | ((with_reducible refine ih ?_ ?_ ?_ ?_ ?_ ?_ ?_ ?_ h1 h2) <;> try (first | exact app_step (by assumption) (by omega) (by omega) | contradiction | exact pad_end (by assumption) (by omega) | (simp only [List.length_append, List.length_cons, List.length_nil] <;> omega) | with_reducible rfl | assumption | omega | solve_by_elim [szL_get, szO_f, szO_d, szO_s]))
      | ((with_reducible refine table_Rows_round0v1_c ?_ ?_) <;> try (first | exact app_step (by assumption) (by omega) (by omega) | contradiction | exact pad_end (by assumption) (by omega) | (simp only [List.length_append, List.length_cons, List.length_nil] <;> omega) | with_reducible rfl | assumption | omega | solve_by_elim [szL_get, szO_f, szO_d, szO_s]))

theorem num_Near_c {n961 : Int} {n962 : Int} {n963 : Int} {H1 : Int → (ι → O) → O} 
    (h1 : ∀ (a0 : Int), (a0 = nearV n961 n962 n963) → T P (H1 a0)) :
    T P (fun K => num_Near n961 n962 n963 (fun a0 => H1 a0 K)) := by
  unfold num_Near num_Near.body
  repeat' first
    | (intro q; try subst q)
    | ((with_reducible refine h1 _ ?_) <;> try (first | (unfold nearV; rw [if_pos (by assumption)]) | (unfold nearV; rw [if_neg (by assumption), if_pos (by assumption)]) | (unfold nearV; rw [if_neg (by assumption), if_neg (by assumption)]) | with_reducible rfl | assumption | omega | solve_by_elim [szL_get, szO_f, szO_d, szO_s]))
    | ((with_reducible refine tna ?_ ?_ ?_); omega; omega)
    | ((with_reducible refine tnb ?_ ?_); focus (first | omega | (first | (unfold nearV; rw [if_pos (by assumption)]) | (unfold nearV; rw [if_neg (by assumption), if_pos (by assumption)]) | (unfold nearV; rw [if_neg (by assumption), if_neg (by assumption)]) | with_reducible rfl | assumption | omega | solve_by_elim [szL_get, szO_f, szO_d, szO_s])))
    | ((with_reducible refine tn ?_ ?_); assumption)
    | with_reducible refine tct ?_
    | with_reducible refine tcf ?_
    | with_reducible refine tcn ?_
    | with_reducible refine tcd ?_ ?_
    | with_reducible refine tce ?_ ?_
    | with_reducible refine tcne ?_ ?_
    | with_reducible refine tc ?_ ?_

theorem fun_Frame_c {t960 : Func} {H1 : Int → (ι → O) → O} 
    (h1 : ∀ (a0 : Int), (a0 = frameV t960.2.1 t960.2.2.1) → T P (H1 a0)) :
    T P (fun K => fun_Frame t960 (fun a0 => H1 a0 K)) := by
  unfold fun_Frame fun_Frame.body
  repeat' first
    | (intro q; try subst q)
    | ((with_reducible refine h1 _ ?_) <;> try (first | rfl | with_reducible rfl | assumption | omega | solve_by_elim [szL_get, szO_f, szO_d, szO_s]))
    | ((with_reducible refine tna ?_ ?_ ?_); omega; omega)
    | ((with_reducible refine tnb ?_ ?_); focus (first | omega | (first | rfl | with_reducible rfl | assumption | omega | solve_by_elim [szL_get, szO_f, szO_d, szO_s])))
    | ((with_reducible refine tn ?_ ?_); assumption)
    | with_reducible refine tct ?_
    | with_reducible refine tcf ?_
    | with_reducible refine tcn ?_
    | with_reducible refine tcd ?_ ?_
    | with_reducible refine tce ?_ ?_
    | with_reducible refine tcne ?_ ?_
    | with_reducible refine tc ?_ ?_
    | ((with_reducible refine num_Near_c ?_))

theorem ranges_In_c {t989 : Func} {n990 : Int} {H1 : Bool → (ι → O) → O} 
    (h1 : ∀ (a0 : Bool), (a0 = inV t989.2.2.2.2.1 t989.2.2.2.2.2.1 n990) → T P (H1 a0)) :
    T P (fun K => ranges_In t989 n990 (fun a0 => H1 a0 K)) := by
  unfold ranges_In ranges_In.body
  repeat' first
    | (intro q; try subst q)
    | ((with_reducible refine h1 _ ?_) <;> try (first | (unfold inV; rw [if_pos (by assumption)]) | (unfold inV; rw [if_neg (by assumption)]) | with_reducible rfl | assumption | omega | solve_by_elim [szL_get, szO_f, szO_d, szO_s]))
    | ((with_reducible refine tna ?_ ?_ ?_); omega; omega)
    | ((with_reducible refine tnb ?_ ?_); focus (first | omega | (first | (unfold inV; rw [if_pos (by assumption)]) | (unfold inV; rw [if_neg (by assumption)]) | with_reducible rfl | assumption | omega | solve_by_elim [szL_get, szO_f, szO_d, szO_s])))
    | ((with_reducible refine tn ?_ ?_); assumption)
    | with_reducible refine tct ?_
    | with_reducible refine tcf ?_
    | with_reducible refine tcn ?_
    | with_reducible refine tcd ?_ ?_
    | with_reducible refine tce ?_ ?_
    | with_reducible refine tcne ?_ ?_
    | with_reducible refine tc ?_ ?_

theorem fun_Line_L0_c : ∀ {m : Nat} {n994 : Int} {n995 : Int} {l996 : List Line} {n997 : Int} {n998 : Int} {H1 : Int → (ι → O) → O} (g0 : 0 ≤ n998) (g1 : n998 ≤ n997) (g2 : n997 ≤ 1000000) (g3 : n997 < n998 + m) (g4 : l996.length ≤ 1000000) (g5 : n997 = (l996.length : Int)) (g6 : lineG (List.drop (Int.toNat n998) l996) n994 n995 = lineG l996 n994 0)
    (h1 : ∀ (a0 : Int), (a0 = lineG l996 n994 0) → T P (H1 a0)),
    T P (fun K => fun_Line_L0 m n994 n995 l996 n997 n998 (fun a0 => H1 a0 K)) := by
  intro m
  induction m with
  | zero => intros; omega
  | succ m ih =>
    intro n994 n995 l996 n997 n998 H1 g0 g1 g2 g3 g4 g5 g6 h1
    rw [fun_Line_L0]
    unfold fun_Line_L0.body
    have := wr64 ((n998 + (1 : Int)))
    repeat' first
      | (intro q; try subst q)
      | ((with_reducible refine h1 _ ?_) <;> try (first | exact line_next (by assumption) (by assumption) (by omega) (by omega) (by assumption) | exact line_next' (by assumption) (by assumption) (by omega) (by omega) (by assumption) | exact line_stop (by assumption) (by omega) (by omega) (by assumption) | exact line_stop' (by assumption) (by omega) (by omega) (by assumption) | exact line_end (by assumption) (by omega) | with_reducible rfl | assumption | omega | solve_by_elim [szL_get, szO_f, szO_d, szO_s]))
      | ((with_reducible refine tna ?_ ?_ ?_); omega; omega)
      | ((with_reducible refine tnb ?_ ?_); focus (first | omega | (first | exact line_next (by assumption) (by assumption) (by omega) (by omega) (by assumption) | exact line_next' (by assumption) (by assumption) (by omega) (by omega) (by assumption) | exact line_stop (by assumption) (by omega) (by omega) (by assumption) | exact line_stop' (by assumption) (by omega) (by omega) (by assumption) | exact line_end (by assumption) (by omega) | with_reducible rfl | assumption | omega | solve_by_elim [szL_get, szO_f, szO_d, szO_s])))
      | ((with_reducible refine tn ?_ ?_); assumption)
      | with_reducible refine tct ?_
      | with_reducible refine tcf ?_
      | with_reducible refine tcn ?_
      | with_reducible refine tcd ?_ ?_
      | with_reducible refine tce ?_ ?_
      | with_reducible refine tcne ?_ ?_
      | with_reducible refine tc ?_ ?_
      | ((with_reducible refine ih ?_ ?_ ?_ ?_ ?_ ?_ ?_ h1) <;> try (first | exact line_next (by assumption) (by assumption) (by omega) (by omega) (by assumption) | exact line_next' (by assumption) (by assumption) (by omega) (by omega) (by assumption) | exact line_stop (by assumption) (by omega) (by omega) (by assumption) | exact line_stop' (by assumption) (by omega) (by omega) (by assumption) | exact line_end (by assumption) (by omega) | with_reducible rfl | assumption | omega | solve_by_elim [szL_get, szO_f, szO_d, szO_s]))

theorem fun_Line_c {t992 : Func} {n993 : Int} {H1 : Int → (ι → O) → O} (g0 : t992.2.2.2.2.2.2.1.length ≤ 80)
    (h1 : ∀ (a0 : Int), (a0 = lineG t992.2.2.2.2.2.2.1 n993 0) → T P (H1 a0)) :
    T P (fun K => fun_Line t992 n993 (fun a0 => H1 a0 K)) := by
  unfold fun_Line fun_Line.body
  have := rb
  repeat' first
    | (intro q; try subst q)
    | ((with_reducible refine h1 _ ?_) <;> try (first | exact rfl | with_reducible rfl | assumption | omega | solve_by_elim [szL_get, szO_f, szO_d, szO_s]))
    | ((with_reducible refine tna ?_ ?_ ?_); omega; omega)
    | ((with_reducible refine tnb ?_ ?_); focus (first | omega | (first | exact rfl | with_reducible rfl | assumption | omega | solve_by_elim [szL_get, szO_f, szO_d, szO_s])))
    | ((with_reducible refine tn ?_ ?_); assumption)
    | with_reducible refine tct ?_
    | with_reducible refine tcf ?_
    | with_reducible refine tcn ?_
    | with_reducible refine tcd ?_ ?_
    | with_reducible refine tce ?_ ?_
    | with_reducible refine tcne ?_ ?_
    | with_reducible refine tc ?_ ?_
    | ((with_reducible refine fun_Line_L0_c ?_ ?_ ?_ ?_ ?_ ?_ ?_ ?_) <;> try (first | exact rfl | with_reducible rfl | assumption | omega | solve_by_elim [szL_get, szO_f, szO_d, szO_s]))

theorem table_rowsfn1_L0_L4_c : ∀ {m : Nat} {n966 : Int} {n967 : Int} {l968 : List Fun_} {n969 : Int} {n970 : Int} {n971 : Int} {n972 : Int} {t973 : Prog} {t974 : Plan} {ts975 : List (Int × Int × Bool × Int × Unit)} {n976 : Int} {n977 : Int} {s978 : ByteArray} {n979 : Int} {l980 : List Int} {n981 : Int} {b982 : Bool} {n983 : Int} {n984 : Int} {l985 : List Line} {l986 : List Instr} {l987 : List Reloc} {l988 : List Int} {H1 : Prog → Plan → (List (Int × Int × Bool × Int × Unit)) → (ι → O) → O} {H2 : Int → (List Fun_) → Int → Int → Prog → Plan → (List (Int × Int × Bool × Int × Unit)) → (ι → O) → O} (g0 : 0 ≤ n972) (g1 : n972 ≤ n971) (g2 : n971 ≤ 1000000) (g3 : n971 < n972 + m) (g4 : l985.length ≤ 80) (g5 : l986.length ≤ 80) (g6 : n971 = (l986.length : Int)) (g7 : ts975 = padV t973 t974 n970 n966 (l986.length : Int) ++ mapZ (fun j : Int => (n966, n967, inV n983 n984 j, lineG l985 j 0, ())) n972) (g8 : (ts975.length : Int) ≤ 20000 + n972)
    (h1 : ∀ (a0 : Prog) (a1 : Plan) (a2 : List (Int × Int × Bool × Int × Unit)), t973 = a0 → t974 = a1 → (False) → T P (H1 a0 a1 a2))
    (h2 : ∀ (a0 : Int) (a1 : List Fun_) (a2 : Int) (a3 : Int) (a4 : Prog) (a5 : Plan) (a6 : List (Int × Int × Bool × Int × Unit)), n966 = a0 → l968 = a1 → n969 = a2 → n970 = a3 → t973 = a4 → t974 = a5 → (a6 = padV t973 t974 n970 n966 (l986.length : Int) ++ mapZ (fun j : Int => (n966, n967, inV n983 n984 j, lineG l985 j 0, ())) (l986.length : Int)) → T P (H2 a0 a1 a2 a3 a4 a5 a6)),
    T P (fun K => table_rowsfn1_L0_L4 m n966 n967 l968 n969 n970 n971 n972 t973 t974 ts975 n976 n977 s978 n979 l980 n981 b982 n983 n984 l985 l986 l987 l988 (fun a0 a1 a2 => H1 a0 a1 a2 K) (fun a0 a1 a2 a3 a4 a5 a6 => H2 a0 a1 a2 a3 a4 a5 a6 K)) := by
  intro m
  induction m with
  | zero => intros; omega
  | succ m ih =>
    intro n966 n967 l968 n969 n970 n971 n972 t973 t974 ts975 n976 n977 s978 n979 l980 n981 b982 n983 n984 l985 l986 l987 l988 H1 H2 g0 g1 g2 g3 g4 g5 g6 g7 g8 h1 h2
    rw [table_rowsfn1_L0_L4]
    unfold table_rowsfn1_L0_L4.body
    have := wr64 ((n972 + (1 : Int)))
    repeat' first
      | (intro q; try subst q)
      | ((with_reducible refine h1 _ _ _ ?_ ?_ ?_) <;> try (first | exact app_stepZ (g := (fun j : Int => (n966, n967, inV n983 n984 j, lineG l985 j 0, ()))) (by assumption) (by omega) (by omega) | contradiction | exact endZ (by assumption) (by omega) | (simp only [List.length_append, List.length_cons, List.length_nil] <;> omega) | with_reducible rfl | assumption | omega | solve_by_elim [szL_get, szO_f, szO_d, szO_s]))
      | ((with_reducible refine h2 _ _ _ _ _ _ _ ?_ ?_ ?_ ?_ ?_ ?_ ?_) <;> try (first | exact app_stepZ (g := (fun j : Int => (n966, n967, inV n983 n984 j, lineG l985 j 0, ()))) (by assumption) (by omega) (by omega) | contradiction | exact endZ (by assumption) (by omega) | (simp only [List.length_append, List.length_cons, List.length_nil] <;> omega) | with_reducible rfl | assumption | omega | solve_by_elim [szL_get, szO_f, szO_d, szO_s]))
      | ((with_reducible refine tna ?_ ?_ ?_); omega; omega)
      | ((with_reducible refine tnb ?_ ?_); focus (first | omega | (first | exact app_stepZ (g := (fun j : Int => (n966, n967, inV n983 n984 j, lineG l985 j 0, ()))) (by assumption) (by omega) (by omega) | contradiction | exact endZ (by assumption) (by omega) | (simp only [List.length_append, List.length_cons, List.length_nil] <;> omega) | with_reducible rfl | assumption | omega | solve_by_elim [szL_get, szO_f, szO_d, szO_s])))
      | ((with_reducible refine tn ?_ ?_); assumption)
      | with_reducible refine tct ?_
      | with_reducible refine tcf ?_
      | with_reducible refine tcn ?_
      | with_reducible refine tcd ?_ ?_
      | with_reducible refine tce ?_ ?_
      | with_reducible refine tcne ?_ ?_
      | with_reducible refine tc ?_ ?_
      | ((with_reducible refine ih ?_ ?_ ?_ ?_ ?_ ?_ ?_ ?_ ?_ h1 h2) <;> try (first | exact app_stepZ (g := (fun j : Int => (n966, n967, inV n983 n984 j, lineG l985 j 0, ()))) (by assumption) (by omega) (by omega) | contradiction | exact endZ (by assumption) (by omega) | (simp only [List.length_append, List.length_cons, List.length_nil] <;> omega) | with_reducible rfl | assumption | omega | solve_by_elim [szL_get, szO_f, szO_d, szO_s]))
      | ((with_reducible refine ranges_In_c ?_))
      | ((with_reducible refine fun_Line_c ?_ ?_) <;> try (first | exact app_stepZ (g := (fun j : Int => (n966, n967, inV n983 n984 j, lineG l985 j 0, ()))) (by assumption) (by omega) (by omega) | contradiction | exact endZ (by assumption) (by omega) | (simp only [List.length_append, List.length_cons, List.length_nil] <;> omega) | with_reducible rfl | assumption | omega | solve_by_elim [szL_get, szO_f, szO_d, szO_s]))
      | ((with_reducible refine table_Rows_round0v1_c ?_ ?_) <;> try (first | exact app_stepZ (g := (fun j : Int => (n966, n967, inV n983 n984 j, lineG l985 j 0, ()))) (by assumption) (by omega) (by omega) | contradiction | exact endZ (by assumption) (by omega) | (simp only [List.length_append, List.length_cons, List.length_nil] <;> omega) | with_reducible rfl | assumption | omega | solve_by_elim [szL_get, szO_f, szO_d, szO_s]))

set_option maxHeartbeats 4000000 in
theorem table_rowsfn1_L0_c : ∀ {m : Nat} {n899 : Int} {l900 : List Fun_} {n901 : Int} {n902 : Int} {t903 : Prog} {t904 : Plan} {ts905 : List (Int × Int × Bool × Int × Unit)} {H1 : Prog → Plan → (List (Int × Int × Bool × Int × Unit)) → (ι → O) → O} {H2 : Prog → Plan → (List (Int × Int × Bool × Int × Unit)) → (ι → O) → O} (g0 : 0 ≤ n902) (g1 : n902 ≤ n901) (g2 : n901 ≤ 1000000) (g3 : n901 < n902 + m) (g4 : few25 t903) (g5 : l900 = t903.1) (g6 : n901 = (t903.1.length : Int)) (g7 : n899 = cntV t903 t904 (Int.toNat n902)) (g8 : ts905 = rowsV t903 t904 (Int.toNat n902))
    (h1 : ∀ (a0 : Prog) (a1 : Plan) (a2 : List (Int × Int × Bool × Int × Unit)), t903 = a0 → t904 = a1 → (False) → T P (H1 a0 a1 a2))
    (h2 : ∀ (a0 : Prog) (a1 : Plan) (a2 : List (Int × Int × Bool × Int × Unit)), t903 = a0 → t904 = a1 → (a2 = rowsV t903 t904 t903.1.length) → T P (H2 a0 a1 a2)),
    T P (fun K => table_rowsfn1_L0 m n899 l900 n901 n902 t903 t904 ts905 (fun a0 a1 a2 => H1 a0 a1 a2 K) (fun a0 a1 a2 => H2 a0 a1 a2 K)) := by
  intro m
  induction m with
  | zero => intros; omega
  | succ m ih =>
    intro n899 l900 n901 n902 t903 t904 ts905 H1 H2 g0 g1 g2 g3 g4 g5 g6 g7 g8 h1 h2
    rw [table_rowsfn1_L0]
    unfold table_rowsfn1_L0.body
    have := wr64 ((n902 + (1 : Int)))
    have := wr64 ((n899 + (1 : Int)))
    have := rb
    subst g5
    have := g4.1
    have hW := w_size (plan := t904) (i := n902) g4
    have hK := few25_code g4 (Int.toNat n902)
    have hN := few25_lines g4 (Int.toNat n902)
    have hR := rowsV_len (plan := t904) g4 (Int.toNat n902)
    rw [← g8] at hR
    repeat' first
      | (intro q; try subst q)
      | ((with_reducible refine h1 _ _ _ ?_ ?_ ?_) <;> try (first | exact app0 (by assumption) | exact app0Z rfl | exact cnt_next (by assumption) (by assumption) (by assumption) (by omega) (by omega) | exact cnt_same (by assumption) (by assumption) (by assumption) (by omega) (by omega) | exact rows_same (by assumption) (by assumption) (by assumption) (by omega) (by omega) | exact rows_next (by assumption) (by assumption) (by assumption) (by omega) (by omega) | exact (hW (by assumption)).1 | contradiction | (rw [show t903.1.length = Int.toNat n902 from by omega]; assumption) | with_reducible rfl | assumption | omega | solve_by_elim [szL_get, szO_f, szO_d, szO_s]))
      | ((with_reducible refine h2 _ _ _ ?_ ?_ ?_) <;> try (first | exact app0 (by assumption) | exact app0Z rfl | exact cnt_next (by assumption) (by assumption) (by assumption) (by omega) (by omega) | exact cnt_same (by assumption) (by assumption) (by assumption) (by omega) (by omega) | exact rows_same (by assumption) (by assumption) (by assumption) (by omega) (by omega) | exact rows_next (by assumption) (by assumption) (by assumption) (by omega) (by omega) | exact (hW (by assumption)).1 | contradiction | (rw [show t903.1.length = Int.toNat n902 from by omega]; assumption) | with_reducible rfl | assumption | omega | solve_by_elim [szL_get, szO_f, szO_d, szO_s]))
      | ((with_reducible refine tna ?_ ?_ ?_); omega; omega)
      | ((with_reducible refine tnb ?_ ?_); focus (first | omega | (first | exact app0 (by assumption) | exact app0Z rfl | exact cnt_next (by assumption) (by assumption) (by assumption) (by omega) (by omega) | exact cnt_same (by assumption) (by assumption) (by assumption) (by omega) (by omega) | exact rows_same (by assumption) (by assumption) (by assumption) (by omega) (by omega) | exact rows_next (by assumption) (by assumption) (by assumption) (by omega) (by omega) | exact (hW (by assumption)).1 | contradiction | (rw [show t903.1.length = Int.toNat n902 from by omega]; assumption) | with_reducible rfl | assumption | omega | solve_by_elim [szL_get, szO_f, szO_d, szO_s])))
      | ((with_reducible refine tn ?_ ?_); assumption)
      | with_reducible refine tct ?_
      | with_reducible refine tcf ?_
      | with_reducible refine tcn ?_
      | with_reducible refine tcd ?_ ?_
      | with_reducible refine tce ?_ ?_
      | with_reducible refine tcne ?_ ?_
      | with_reducible refine tc ?_ ?_
      | ((with_reducible refine ih ?_ ?_ ?_ ?_ ?_ ?_ ?_ ?_ ?_ h1 h2) <;> try (first | exact app0 (by assumption) | exact app0Z rfl | exact cnt_next (by assumption) (by assumption) (by assumption) (by omega) (by omega) | exact cnt_same (by assumption) (by assumption) (by assumption) (by omega) (by omega) | exact rows_same (by assumption) (by assumption) (by assumption) (by omega) (by omega) | exact rows_next (by assumption) (by assumption) (by assumption) (by omega) (by omega) | exact (hW (by assumption)).1 | contradiction | (rw [show t903.1.length = Int.toNat n902 from by omega]; assumption) | with_reducible rfl | assumption | omega | solve_by_elim [szL_get, szO_f, szO_d, szO_s]))
      | ((with_reducible refine prologue_Size_c ?_))
      | ((with_reducible refine fun_Frame_c ?_))
      | ((with_reducible refine table_rowsfn1_L0_L2_c ?_ ?_ ?_ ?_ ?_ ?_ ?_ ?_ ?_ ?_) <;> try (first | exact app0 (by assumption) | exact app0Z rfl | exact cnt_next (by assumption) (by assumption) (by assumption) (by omega) (by omega) | exact cnt_same (by assumption) (by assumption) (by assumption) (by omega) (by omega) | exact rows_same (by assumption) (by assumption) (by assumption) (by omega) (by omega) | exact rows_next (by assumption) (by assumption) (by assumption) (by omega) (by omega) | exact (hW (by assumption)).1 | contradiction | (rw [show t903.1.length = Int.toNat n902 from by omega]; assumption) | with_reducible rfl | assumption | omega | solve_by_elim [szL_get, szO_f, szO_d, szO_s]))
      | ((with_reducible refine table_rowsfn1_L0_L4_c ?_ ?_ ?_ ?_ ?_ ?_ ?_ ?_ ?_ ?_ ?_) <;> try (first | exact app0 (by assumption) | exact app0Z rfl | exact cnt_next (by assumption) (by assumption) (by assumption) (by omega) (by omega) | exact cnt_same (by assumption) (by assumption) (by assumption) (by omega) (by omega) | exact rows_same (by assumption) (by assumption) (by assumption) (by omega) (by omega) | exact rows_next (by assumption) (by assumption) (by assumption) (by omega) (by omega) | exact (hW (by assumption)).1 | contradiction | (rw [show t903.1.length = Int.toNat n902 from by omega]; assumption) | with_reducible rfl | assumption | omega | solve_by_elim [szL_get, szO_f, szO_d, szO_s]))

theorem table_rowsfn1_c {t890 : Prog} {t891 : Plan} {H1 : Prog → Plan → (List (Int × Int × Bool × Int × Unit)) → (ι → O) → O} (g0 : few25 t890)
    (h1 : ∀ (a0 : Prog) (a1 : Plan) (a2 : List (Int × Int × Bool × Int × Unit)), t890 = a0 → t891 = a1 → (a2 = rowsV t890 t891 t890.1.length) → T P (H1 a0 a1 a2)) :
    T P (fun K => table_rowsfn1 t890 t891 (fun a0 a1 a2 => H1 a0 a1 a2 K)) := by
  unfold table_rowsfn1 table_rowsfn1.body
  have := rb
  have := g0.1
  repeat' first
    | (intro q; try subst q)
    | ((with_reducible refine h1 _ _ _ ?_ ?_ ?_) <;> try (first | exact rfl | (show List.length [_] ≤ _; simp only [List.length_cons, List.length_nil]; omega) | contradiction | with_reducible rfl | assumption | omega | solve_by_elim [szL_get, szO_f, szO_d, szO_s]))
    | ((with_reducible refine tna ?_ ?_ ?_); omega; omega)
    | ((with_reducible refine tnb ?_ ?_); focus (first | omega | (first | exact rfl | (show List.length [_] ≤ _; simp only [List.length_cons, List.length_nil]; omega) | contradiction | with_reducible rfl | assumption | omega | solve_by_elim [szL_get, szO_f, szO_d, szO_s])))
    | ((with_reducible refine tn ?_ ?_); assumption)
    | with_reducible refine tct ?_
    | with_reducible refine tcf ?_
    | with_reducible refine tcn ?_
    | with_reducible refine tcd ?_ ?_
    | with_reducible refine tce ?_ ?_
    | with_reducible refine tcne ?_ ?_
    | with_reducible refine tc ?_ ?_
    | ((with_reducible refine table_Rows_round0_c ?_))
    | ((with_reducible refine table_Rows_round0v1_c ?_ ?_) <;> try (first | exact rfl | (show List.length [_] ≤ _; simp only [List.length_cons, List.length_nil]; omega) | contradiction | with_reducible rfl | assumption | omega | solve_by_elim [szL_get, szO_f, szO_d, szO_s]))
    | ((with_reducible refine table_rowsfn1_L0_c ?_ ?_ ?_ ?_ ?_ ?_ ?_ ?_ ?_ ?_ ?_) <;> try (first | exact rfl | (show List.length [_] ≤ _; simp only [List.length_cons, List.length_nil]; omega) | contradiction | with_reducible rfl | assumption | omega | solve_by_elim [szL_get, szO_f, szO_d, szO_s]))

theorem table_Rows_c {t884 : Prog} {t885 : Plan} {H1 : (List (Int × Int × Bool × Int × Unit)) → (ι → O) → O} (g0 : few25 t884)
    (h1 : ∀ (a0 : List (Int × Int × Bool × Int × Unit)), (a0 = rowsV t884 t885 t884.1.length) → T P (H1 a0)) :
    T P (fun K => table_Rows t884 t885 (fun a0 => H1 a0 K)) := by
  unfold table_Rows table_Rows.body
  repeat' first
    | (intro q; try subst q)
    | ((with_reducible refine h1 _ ?_) <;> try (first | with_reducible rfl | assumption | omega | solve_by_elim [szL_get, szO_f, szO_d, szO_s]))
    | ((with_reducible refine tna ?_ ?_ ?_); omega; omega)
    | ((with_reducible refine tnb ?_ ?_); focus (first | omega | (first | with_reducible rfl | assumption | omega | solve_by_elim [szL_get, szO_f, szO_d, szO_s])))
    | ((with_reducible refine tn ?_ ?_); assumption)
    | with_reducible refine tct ?_
    | with_reducible refine tcf ?_
    | with_reducible refine tcn ?_
    | with_reducible refine tcd ?_ ?_
    | with_reducible refine tce ?_ ?_
    | with_reducible refine tcne ?_ ?_
    | with_reducible refine tc ?_ ?_
    | ((with_reducible refine table_rows_c ?_))
    | ((with_reducible refine table_rowsfn1_c ?_ ?_) <;> try (first | with_reducible rfl | assumption | omega | solve_by_elim [szL_get, szO_f, szO_d, szO_s]))

theorem ref28_Kept_c {p : Prog} {plan : Plan} {i : Int} {H1 : Bool → (ι → O) → O} (h1 : ∀ b, (b = true ↔ 0 ≤ i ∧ i < (p.1.length : Int) ∧ plan.1.getD i.toNat false = true) → T P (H1 b)) : T P (fun K => ref28_Kept p plan i (fun a => H1 a K)) := by
  unfold ref28_Kept ref28_Kept.body
  refine tcd (fun h => tcd (fun h2 => tcd (fun h3 => tna (by omega) (by omega) (h1 _ ⟨fun h4 => ⟨h, h2, h4⟩, fun h4 => h4.2.2⟩)) (fun h3 => h1 _ ⟨fun h4 => (nomatch h4), fun h4 => ?_⟩)) (fun h2 => h1 _ ⟨fun h4 => (nomatch h4), fun h4 => by omega⟩)) (fun h2 => h1 _ ⟨fun h4 => (nomatch h4), fun h4 => by omega⟩)
  have := h4.2.2
  rw [getD_ge (by omega)] at this
  exact this

theorem ref28_Check_c {plan : Plan} {i : Int} {H1 : Int → (ι → O) → O} (h0 : 0 ≤ i) (h1 : T P (H1 (plan.2.1.getD i.toNat 0))) : T P (fun K => ref28_Check plan i (fun a => H1 a K)) := by
  unfold ref28_Check ref28_Check.body
  refine tcn (tcd (fun h => by omega) (fun h => tcd (fun h2 => ?_) (fun h2 => tna (by omega) (by omega) h1)))
  rw [getD_ge (by omega)] at h1
  exact h1

theorem ref28_Size_c {p : Prog} {plan : Plan} {i : Int} {H1 : Int → (ι → O) → O} (h1 : ∀ n, n = sizeV p plan i → T P (H1 n)) : T P (fun K => ref28_Size p plan i (fun a => H1 a K)) := by
  unfold ref28_Size ref28_Size.body
  refine ref28_Kept_c (fun b e => tcn (tc (fun hb => ?_) (fun hb => h1 _ ?_)))
  · have hk := e.1 hb
    refine tna (by omega) (by omega) (ref28_Check_c hk.1 (tcne (fun h3 => h1 _ ?_) (fun h3 => h1 _ ?_)))
    · unfold sizeV; rw [if_pos hk, if_pos h3]
    · unfold sizeV; rw [if_pos hk, if_neg (fun h => h h3)]
  · unfold sizeV
    rw [if_neg (fun h => ?_)]
    rw [e.2 h] at hb
    cases hb

theorem ref33_Rows_L0_L2_c : ∀ {m : Nat} {n1034 : Int} {n1035 : Int} {n1036 : Int} {t1037 : Prog} {t1038 : Plan} {ts1039 : List (Int × Int × Bool × Int × Unit)} {n1040 : Int} {l1041 : List Int} {n1042 : Int} {b1043 : Bool} {n1044 : Int} {n1045 : Int} {l1046 : List Line} {l1047 : List Instr} {l1048 : List Reloc} {H1 : Int → Int → Prog → Plan → (List (Int × Int × Bool × Int × Unit)) → Int → (List Int) → Int → Bool → Int → Int → (List Line) → (List Instr) → (List Reloc) → (ι → O) → O} (g0 : 0 ≤ n1036) (g1 : n1036 ≤ (sizeV t1037 t1038 n1035)) (g2 : (sizeV t1037 t1038 n1035) < n1036 + m) (g3 : few25 t1037) (g4 : (l1047.length : Int) ≤ n1036) (g5 : ts1039 = rowsV t1037 t1038 (Int.toNat n1035) ++ mapR (fun _ => (n1034, 0, false, 0, ())) (n1036 - (l1047.length : Int))) (g6 : (ts1039.length : Int) ≤ 10000 + n1036)
    (h1 : ∀ (a0 : Int) (a1 : Int) (a2 : Prog) (a3 : Plan) (a4 : List (Int × Int × Bool × Int × Unit)) (a5 : Int) (a6 : List Int) (a7 : Int) (a8 : Bool) (a9 : Int) (a10 : Int) (a11 : List Line) (a12 : List Instr) (a13 : List Reloc), n1034 = a0 → n1035 = a1 → t1037 = a2 → t1038 = a3 → n1040 = a5 → l1041 = a6 → n1042 = a7 → b1043 = a8 → n1044 = a9 → n1045 = a10 → l1046 = a11 → l1047 = a12 → l1048 = a13 → (a4 = padV t1037 t1038 n1035 n1034 (l1047.length : Int)) → ((a4.length : Int) ≤ 20000) → T P (H1 a0 a1 a2 a3 a4 a5 a6 a7 a8 a9 a10 a11 a12 a13)),
    T P (fun K => ref33_Rows_L0_L2 m n1034 n1035 n1036 t1037 t1038 ts1039 n1040 l1041 n1042 b1043 n1044 n1045 l1046 l1047 l1048 (fun a0 a1 a2 a3 a4 a5 a6 a7 a8 a9 a10 a11 a12 a13 => H1 a0 a1 a2 a3 a4 a5 a6 a7 a8 a9 a10 a11 a12 a13 K)) := by
  intro m
  induction m with
  | zero => intros; omega
  | succ m ih =>
    intro n1034 n1035 n1036 t1037 t1038 ts1039 n1040 l1041 n1042 b1043 n1044 n1045 l1046 l1047 l1048 H1 g0 g1 g2 g3 g4 g5 g6 h1
    rw [ref33_Rows_L0_L2]
    unfold ref33_Rows_L0_L2.body
    have := wr64 ((n1036 + (1 : Int)))
    have hb := sizeV_b (plan := t1038) (i := n1035) g3
    repeat' first
      | (intro q; try subst q)
      | ((with_reducible refine h1 _ _ _ _ _ _ _ _ _ _ _ _ _ _ ?_ ?_ ?_ ?_ ?_ ?_ ?_ ?_ ?_ ?_ ?_ ?_ ?_ ?_ ?_) <;> try (first | exact pad_step (by assumption) (by omega) (by omega) (by omega) | (unfold padV; rw [show sizeV t1037 t1038 n1035 = n1036 from by omega]; assumption) | (simp only [List.length_append, List.length_cons, List.length_nil] <;> omega) | with_reducible rfl | assumption | omega | solve_by_elim [szL_get, szO_f, szO_d, szO_s]))
      | ((with_reducible refine tna ?_ ?_ ?_); omega; omega)
      | ((with_reducible refine tnb ?_ ?_); focus (first | omega | (first | exact pad_step (by assumption) (by omega) (by omega) (by omega) | (unfold padV; rw [show sizeV t1037 t1038 n1035 = n1036 from by omega]; assumption) | (simp only [List.length_append, List.length_cons, List.length_nil] <;> omega) | with_reducible rfl | assumption | omega | solve_by_elim [szL_get, szO_f, szO_d, szO_s])))
      | ((with_reducible refine tn ?_ ?_); assumption)
      | with_reducible refine tct ?_
      | with_reducible refine tcf ?_
      | with_reducible refine tcn ?_
      | with_reducible refine tcd ?_ ?_
      | with_reducible refine tce ?_ ?_
      | with_reducible refine tcne ?_ ?_
      | with_reducible refine tc ?_ ?_
      | ((with_reducible refine ih ?_ ?_ ?_ ?_ ?_ ?_ ?_ h1) <;> try (first | exact pad_step (by assumption) (by omega) (by omega) (by omega) | (unfold padV; rw [show sizeV t1037 t1038 n1035 = n1036 from by omega]; assumption) | (simp only [List.length_append, List.length_cons, List.length_nil] <;> omega) | with_reducible rfl | assumption | omega | solve_by_elim [szL_get, szO_f, szO_d, szO_s]))
      | ((with_reducible refine ref28_Size_c ?_))

theorem ref01_Near_c {n1087 : Int} {n1088 : Int} {n1089 : Int} {H1 : Int → (ι → O) → O} 
    (h1 : ∀ (a0 : Int), (a0 = nearV n1087 n1088 n1089) → T P (H1 a0)) :
    T P (fun K => ref01_Near n1087 n1088 n1089 (fun a0 => H1 a0 K)) := by
  unfold ref01_Near ref01_Near.body
  repeat' first
    | (intro q; try subst q)
    | ((with_reducible refine h1 _ ?_) <;> try (first | (unfold nearV; rw [if_pos (by assumption)]) | (unfold nearV; rw [if_neg (by assumption), if_pos (by assumption)]) | (unfold nearV; rw [if_neg (by assumption), if_neg (by assumption)]) | with_reducible rfl | assumption | omega | solve_by_elim [szL_get, szO_f, szO_d, szO_s]))
    | ((with_reducible refine tna ?_ ?_ ?_); omega; omega)
    | ((with_reducible refine tnb ?_ ?_); focus (first | omega | (first | (unfold nearV; rw [if_pos (by assumption)]) | (unfold nearV; rw [if_neg (by assumption), if_pos (by assumption)]) | (unfold nearV; rw [if_neg (by assumption), if_neg (by assumption)]) | with_reducible rfl | assumption | omega | solve_by_elim [szL_get, szO_f, szO_d, szO_s])))
    | ((with_reducible refine tn ?_ ?_); assumption)
    | with_reducible refine tct ?_
    | with_reducible refine tcf ?_
    | with_reducible refine tcn ?_
    | with_reducible refine tcd ?_ ?_
    | with_reducible refine tce ?_ ?_
    | with_reducible refine tcne ?_ ?_
    | with_reducible refine tc ?_ ?_

theorem ref16_Frame_c {t1086 : Func} {H1 : Int → (ι → O) → O} 
    (h1 : ∀ (a0 : Int), (a0 = frameV t1086.2.1 t1086.2.2.1) → T P (H1 a0)) :
    T P (fun K => ref16_Frame t1086 (fun a0 => H1 a0 K)) := by
  unfold ref16_Frame ref16_Frame.body
  repeat' first
    | (intro q; try subst q)
    | ((with_reducible refine h1 _ ?_) <;> try (first | rfl | with_reducible rfl | assumption | omega | solve_by_elim [szL_get, szO_f, szO_d, szO_s]))
    | ((with_reducible refine tna ?_ ?_ ?_); omega; omega)
    | ((with_reducible refine tnb ?_ ?_); focus (first | omega | (first | rfl | with_reducible rfl | assumption | omega | solve_by_elim [szL_get, szO_f, szO_d, szO_s])))
    | ((with_reducible refine tn ?_ ?_); assumption)
    | with_reducible refine tct ?_
    | with_reducible refine tcf ?_
    | with_reducible refine tcn ?_
    | with_reducible refine tcd ?_ ?_
    | with_reducible refine tce ?_ ?_
    | with_reducible refine tcne ?_ ?_
    | with_reducible refine tc ?_ ?_
    | ((with_reducible refine ref01_Near_c ?_))

theorem ref16_Line_L0_c : ∀ {m : Nat} {n1095 : Int} {n1096 : Int} {n1097 : Int} {t1098 : Func} {H1 : Int → (ι → O) → O} (g0 : 0 ≤ n1097) (g1 : n1097 ≤ (((List.length t1098.2.2.2.2.2.2.1) : Nat) : Int)) (g2 : (((List.length t1098.2.2.2.2.2.2.1) : Nat) : Int) < n1097 + m) (g3 : t1098.2.2.2.2.2.2.1.length ≤ 1000000) (g4 : lineG (List.drop (Int.toNat n1097) t1098.2.2.2.2.2.2.1) n1095 n1096 = lineG t1098.2.2.2.2.2.2.1 n1095 0)
    (h1 : ∀ (a0 : Int), (a0 = lineG t1098.2.2.2.2.2.2.1 n1095 0) → T P (H1 a0)),
    T P (fun K => ref16_Line_L0 m n1095 n1096 n1097 t1098 (fun a0 => H1 a0 K)) := by
  intro m
  induction m with
  | zero => intros; omega
  | succ m ih =>
    intro n1095 n1096 n1097 t1098 H1 g0 g1 g2 g3 g4 h1
    rw [ref16_Line_L0]
    unfold ref16_Line_L0.body
    have := wr64 ((n1097 + (1 : Int)))
    repeat' first
      | (intro q; try subst q)
      | ((with_reducible refine h1 _ ?_) <;> try (first | exact line_next (by assumption) (by assumption) (by omega) (by omega) (by assumption) | exact line_next' (by assumption) (by assumption) (by omega) (by omega) (by assumption) | exact line_stop (by assumption) (by omega) (by omega) (by assumption) | exact line_stop' (by assumption) (by omega) (by omega) (by assumption) | exact line_end (by assumption) (by omega) | with_reducible rfl | assumption | omega | solve_by_elim [szL_get, szO_f, szO_d, szO_s]))
      | ((with_reducible refine tna ?_ ?_ ?_); omega; omega)
      | ((with_reducible refine tnb ?_ ?_); focus (first | omega | (first | exact line_next (by assumption) (by assumption) (by omega) (by omega) (by assumption) | exact line_next' (by assumption) (by assumption) (by omega) (by omega) (by assumption) | exact line_stop (by assumption) (by omega) (by omega) (by assumption) | exact line_stop' (by assumption) (by omega) (by omega) (by assumption) | exact line_end (by assumption) (by omega) | with_reducible rfl | assumption | omega | solve_by_elim [szL_get, szO_f, szO_d, szO_s])))
      | ((with_reducible refine tn ?_ ?_); assumption)
      | with_reducible refine tct ?_
      | with_reducible refine tcf ?_
      | with_reducible refine tcn ?_
      | with_reducible refine tcd ?_ ?_
      | with_reducible refine tce ?_ ?_
      | with_reducible refine tcne ?_ ?_
      | with_reducible refine tc ?_ ?_
      | ((with_reducible refine ih ?_ ?_ ?_ ?_ ?_ h1) <;> try (first | exact line_next (by assumption) (by assumption) (by omega) (by omega) (by assumption) | exact line_next' (by assumption) (by assumption) (by omega) (by omega) (by assumption) | exact line_stop (by assumption) (by omega) (by omega) (by assumption) | exact line_stop' (by assumption) (by omega) (by omega) (by assumption) | exact line_end (by assumption) (by omega) | with_reducible rfl | assumption | omega | solve_by_elim [szL_get, szO_f, szO_d, szO_s]))

theorem ref16_Line_c {t1093 : Func} {n1094 : Int} {H1 : Int → (ι → O) → O} (g0 : t1093.2.2.2.2.2.2.1.length ≤ 80)
    (h1 : ∀ (a0 : Int), (a0 = lineG t1093.2.2.2.2.2.2.1 n1094 0) → T P (H1 a0)) :
    T P (fun K => ref16_Line t1093 n1094 (fun a0 => H1 a0 K)) := by
  unfold ref16_Line ref16_Line.body
  have := rb
  repeat' first
    | (intro q; try subst q)
    | ((with_reducible refine h1 _ ?_) <;> try (first | exact rfl | with_reducible rfl | assumption | omega | solve_by_elim [szL_get, szO_f, szO_d, szO_s]))
    | ((with_reducible refine tna ?_ ?_ ?_); omega; omega)
    | ((with_reducible refine tnb ?_ ?_); focus (first | omega | (first | exact rfl | with_reducible rfl | assumption | omega | solve_by_elim [szL_get, szO_f, szO_d, szO_s])))
    | ((with_reducible refine tn ?_ ?_); assumption)
    | with_reducible refine tct ?_
    | with_reducible refine tcf ?_
    | with_reducible refine tcn ?_
    | with_reducible refine tcd ?_ ?_
    | with_reducible refine tce ?_ ?_
    | with_reducible refine tcne ?_ ?_
    | with_reducible refine tc ?_ ?_
    | ((with_reducible refine ref16_Line_L0_c ?_ ?_ ?_ ?_ ?_ ?_) <;> try (first | exact rfl | with_reducible rfl | assumption | omega | solve_by_elim [szL_get, szO_f, szO_d, szO_s]))

theorem ref33_Rows_L0_L4_c : ∀ {m : Nat} {n1071 : Int} {n1072 : Int} {n1073 : Int} {t1074 : Prog} {t1075 : Plan} {ts1076 : List (Int × Int × Bool × Int × Unit)} {n1077 : Int} {l1078 : List Int} {n1079 : Int} {b1080 : Bool} {n1081 : Int} {n1082 : Int} {l1083 : List Line} {l1084 : List Instr} {l1085 : List Reloc} {H1 : Int → Int → Prog → Plan → (List (Int × Int × Bool × Int × Unit)) → (ι → O) → O} (g0 : 0 ≤ n1073) (g1 : n1073 ≤ (((List.length l1084) : Nat) : Int)) (g2 : (((List.length l1084) : Nat) : Int) < n1073 + m) (g3 : l1083.length ≤ 80) (g4 : l1084.length ≤ 80) (g5 : ts1076 = padV t1074 t1075 n1072 n1071 (l1084.length : Int) ++ mapZ (fun j : Int => (n1071, frameV l1078 n1079, inV n1081 n1082 j, lineG l1083 j 0, ())) n1073) (g6 : (ts1076.length : Int) ≤ 20000 + n1073)
    (h1 : ∀ (a0 : Int) (a1 : Int) (a2 : Prog) (a3 : Plan) (a4 : List (Int × Int × Bool × Int × Unit)), n1071 = a0 → n1072 = a1 → t1074 = a2 → t1075 = a3 → (a4 = padV t1074 t1075 n1072 n1071 (l1084.length : Int) ++ mapZ (fun j : Int => (n1071, frameV l1078 n1079, inV n1081 n1082 j, lineG l1083 j 0, ())) (l1084.length : Int)) → T P (H1 a0 a1 a2 a3 a4)),
    T P (fun K => ref33_Rows_L0_L4 m n1071 n1072 n1073 t1074 t1075 ts1076 n1077 l1078 n1079 b1080 n1081 n1082 l1083 l1084 l1085 (fun a0 a1 a2 a3 a4 => H1 a0 a1 a2 a3 a4 K)) := by
  intro m
  induction m with
  | zero => intros; omega
  | succ m ih =>
    intro n1071 n1072 n1073 t1074 t1075 ts1076 n1077 l1078 n1079 b1080 n1081 n1082 l1083 l1084 l1085 H1 g0 g1 g2 g3 g4 g5 g6 h1
    rw [ref33_Rows_L0_L4]
    unfold ref33_Rows_L0_L4.body
    have := wr64 ((n1073 + (1 : Int)))
    repeat' first
      | (intro q; try subst q)
      | ((with_reducible refine h1 _ _ _ _ _ ?_ ?_ ?_ ?_ ?_) <;> try (first | exact app_stepZ (g := (fun j : Int => (n1071, frameV l1078 n1079, inV n1081 n1082 j, lineG l1083 j 0, ()))) (by assumption) (by omega) (by omega) | exact endZ (by assumption) (by omega) | (simp only [List.length_append, List.length_cons, List.length_nil] <;> omega) | with_reducible rfl | assumption | omega | solve_by_elim [szL_get, szO_f, szO_d, szO_s]))
      | ((with_reducible refine tna ?_ ?_ ?_); omega; omega)
      | ((with_reducible refine tnb ?_ ?_); focus (first | omega | (first | exact app_stepZ (g := (fun j : Int => (n1071, frameV l1078 n1079, inV n1081 n1082 j, lineG l1083 j 0, ()))) (by assumption) (by omega) (by omega) | exact endZ (by assumption) (by omega) | (simp only [List.length_append, List.length_cons, List.length_nil] <;> omega) | with_reducible rfl | assumption | omega | solve_by_elim [szL_get, szO_f, szO_d, szO_s])))
      | ((with_reducible refine tn ?_ ?_); assumption)
      | with_reducible refine tct ?_
      | with_reducible refine tcf ?_
      | with_reducible refine tcn ?_
      | with_reducible refine tcd ?_ ?_
      | with_reducible refine tce ?_ ?_
      | with_reducible refine tcne ?_ ?_
      | with_reducible refine tc ?_ ?_
      | ((with_reducible refine ih ?_ ?_ ?_ ?_ ?_ ?_ ?_ h1) <;> try (first | exact app_stepZ (g := (fun j : Int => (n1071, frameV l1078 n1079, inV n1081 n1082 j, lineG l1083 j 0, ()))) (by assumption) (by omega) (by omega) | exact endZ (by assumption) (by omega) | (simp only [List.length_append, List.length_cons, List.length_nil] <;> omega) | with_reducible rfl | assumption | omega | solve_by_elim [szL_get, szO_f, szO_d, szO_s]))
      | ((with_reducible refine ref16_Frame_c ?_))
      | ((with_reducible refine ref18_In_c ?_))
      | ((with_reducible refine ref16_Line_c ?_ ?_) <;> try (first | exact app_stepZ (g := (fun j : Int => (n1071, frameV l1078 n1079, inV n1081 n1082 j, lineG l1083 j 0, ()))) (by assumption) (by omega) (by omega) | exact endZ (by assumption) (by omega) | (simp only [List.length_append, List.length_cons, List.length_nil] <;> omega) | with_reducible rfl | assumption | omega | solve_by_elim [szL_get, szO_f, szO_d, szO_s]))

set_option maxHeartbeats 4000000 in
theorem ref33_Rows_L0_c : ∀ {m : Nat} {n1025 : Int} {n1026 : Int} {t1027 : Prog} {t1028 : Plan} {ts1029 : List (Int × Int × Bool × Int × Unit)} {H1 : (List (Int × Int × Bool × Int × Unit)) → (ι → O) → O} (g0 : 0 ≤ n1026) (g1 : n1026 ≤ (((List.length t1027.1) : Nat) : Int)) (g2 : (((List.length t1027.1) : Nat) : Int) < n1026 + m) (g3 : few25 t1027) (g4 : n1025 = cntV t1027 t1028 (Int.toNat n1026)) (g5 : ts1029 = rowsV t1027 t1028 (Int.toNat n1026))
    (h1 : ∀ (a0 : List (Int × Int × Bool × Int × Unit)), (a0 = rowsV t1027 t1028 t1027.1.length) → T P (H1 a0)),
    T P (fun K => ref33_Rows_L0 m n1025 n1026 t1027 t1028 ts1029 (fun a0 => H1 a0 K)) := by
  intro m
  induction m with
  | zero => intros; omega
  | succ m ih =>
    intro n1025 n1026 t1027 t1028 ts1029 H1 g0 g1 g2 g3 g4 g5 h1
    rw [ref33_Rows_L0]
    unfold ref33_Rows_L0.body
    have := wr64 ((n1026 + (1 : Int)))
    have := wr64 ((n1025 + (1 : Int)))
    have := rb
    have := g3.1
    have hW := w_size (plan := t1028) (i := n1026) g3
    have hK := few25_code g3 (Int.toNat n1026)
    have hN := few25_lines g3 (Int.toNat n1026)
    have hR := rowsV_len (plan := t1028) g3 (Int.toNat n1026)
    rw [← g5] at hR
    have hb := sizeV_b (plan := t1028) (i := n1026) g3
    repeat' first
      | (intro q; try subst q)
      | ((with_reducible refine h1 _ ?_) <;> try (first | exact pad_0 (by assumption) | exact app0Z rfl | exact cnt_next (by assumption) (by assumption) (size_of_yes (by assumption) (by assumption)) (by omega) (by omega) | exact cnt_same (by assumption) (by assumption) (size_of_no (by assumption)) (by omega) (by omega) | exact rows_same (by assumption) (by assumption) (size_of_no (by assumption)) (by omega) (by omega) | exact rows_next (by assumption) (by assumption) (size_of_yes (by assumption) (by assumption)) (by omega) (by omega) | (have hz := size_of_yes g3 (by assumption); have hz2 := hW hz; omega) | (rw [show t1027.1.length = Int.toNat n1026 from by omega]; assumption) | with_reducible rfl | assumption | omega | solve_by_elim [szL_get, szO_f, szO_d, szO_s]))
      | ((with_reducible refine tna ?_ ?_ ?_); omega; omega)
      | ((with_reducible refine tnb ?_ ?_); focus (first | omega | (first | exact pad_0 (by assumption) | exact app0Z rfl | exact cnt_next (by assumption) (by assumption) (size_of_yes (by assumption) (by assumption)) (by omega) (by omega) | exact cnt_same (by assumption) (by assumption) (size_of_no (by assumption)) (by omega) (by omega) | exact rows_same (by assumption) (by assumption) (size_of_no (by assumption)) (by omega) (by omega) | exact rows_next (by assumption) (by assumption) (size_of_yes (by assumption) (by assumption)) (by omega) (by omega) | (have hz := size_of_yes g3 (by assumption); have hz2 := hW hz; omega) | (rw [show t1027.1.length = Int.toNat n1026 from by omega]; assumption) | with_reducible rfl | assumption | omega | solve_by_elim [szL_get, szO_f, szO_d, szO_s])))
      | ((with_reducible refine tn ?_ ?_); assumption)
      | with_reducible refine tct ?_
      | with_reducible refine tcf ?_
      | with_reducible refine tcn ?_
      | with_reducible refine tcd ?_ ?_
      | with_reducible refine tce ?_ ?_
      | with_reducible refine tcne ?_ ?_
      | with_reducible refine tc ?_ ?_
      | ((with_reducible refine ih ?_ ?_ ?_ ?_ ?_ ?_ h1) <;> try (first | exact pad_0 (by assumption) | exact app0Z rfl | exact cnt_next (by assumption) (by assumption) (size_of_yes (by assumption) (by assumption)) (by omega) (by omega) | exact cnt_same (by assumption) (by assumption) (size_of_no (by assumption)) (by omega) (by omega) | exact rows_same (by assumption) (by assumption) (size_of_no (by assumption)) (by omega) (by omega) | exact rows_next (by assumption) (by assumption) (size_of_yes (by assumption) (by assumption)) (by omega) (by omega) | (have hz := size_of_yes g3 (by assumption); have hz2 := hW hz; omega) | (rw [show t1027.1.length = Int.toNat n1026 from by omega]; assumption) | with_reducible rfl | assumption | omega | solve_by_elim [szL_get, szO_f, szO_d, szO_s]))
      | ((with_reducible refine ref28_Kept_c ?_))
      | ((with_reducible refine ref33_Rows_L0_L2_c ?_ ?_ ?_ ?_ ?_ ?_ ?_ ?_) <;> try (first | exact pad_0 (by assumption) | exact app0Z rfl | exact cnt_next (by assumption) (by assumption) (size_of_yes (by assumption) (by assumption)) (by omega) (by omega) | exact cnt_same (by assumption) (by assumption) (size_of_no (by assumption)) (by omega) (by omega) | exact rows_same (by assumption) (by assumption) (size_of_no (by assumption)) (by omega) (by omega) | exact rows_next (by assumption) (by assumption) (size_of_yes (by assumption) (by assumption)) (by omega) (by omega) | (have hz := size_of_yes g3 (by assumption); have hz2 := hW hz; omega) | (rw [show t1027.1.length = Int.toNat n1026 from by omega]; assumption) | with_reducible rfl | assumption | omega | solve_by_elim [szL_get, szO_f, szO_d, szO_s]))
      | ((with_reducible refine ref33_Rows_L0_L4_c ?_ ?_ ?_ ?_ ?_ ?_ ?_ ?_) <;> try (first | exact pad_0 (by assumption) | exact app0Z rfl | exact cnt_next (by assumption) (by assumption) (size_of_yes (by assumption) (by assumption)) (by omega) (by omega) | exact cnt_same (by assumption) (by assumption) (size_of_no (by assumption)) (by omega) (by omega) | exact rows_same (by assumption) (by assumption) (size_of_no (by assumption)) (by omega) (by omega) | exact rows_next (by assumption) (by assumption) (size_of_yes (by assumption) (by assumption)) (by omega) (by omega) | (have hz := size_of_yes g3 (by assumption); have hz2 := hW hz; omega) | (rw [show t1027.1.length = Int.toNat n1026 from by omega]; assumption) | with_reducible rfl | assumption | omega | solve_by_elim [szL_get, szO_f, szO_d, szO_s]))

theorem ref33_Rows_c {t1023 : Prog} {t1024 : Plan} {H1 : (List (Int × Int × Bool × Int × Unit)) → (ι → O) → O} (g0 : few25 t1023)
    (h1 : ∀ (a0 : List (Int × Int × Bool × Int × Unit)), (a0 = rowsV t1023 t1024 t1023.1.length) → T P (H1 a0)) :
    T P (fun K => ref33_Rows t1023 t1024 (fun a0 => H1 a0 K)) := by
  unfold ref33_Rows ref33_Rows.body
  have := rb
  have := g0.1
  repeat' first
    | (intro q; try subst q)
    | ((with_reducible refine h1 _ ?_) <;> try (first | exact rfl | with_reducible rfl | assumption | omega | solve_by_elim [szL_get, szO_f, szO_d, szO_s]))
    | ((with_reducible refine tna ?_ ?_ ?_); omega; omega)
    | ((with_reducible refine tnb ?_ ?_); focus (first | omega | (first | exact rfl | with_reducible rfl | assumption | omega | solve_by_elim [szL_get, szO_f, szO_d, szO_s])))
    | ((with_reducible refine tn ?_ ?_); assumption)
    | with_reducible refine tct ?_
    | with_reducible refine tcf ?_
    | with_reducible refine tcn ?_
    | with_reducible refine tcd ?_ ?_
    | with_reducible refine tce ?_ ?_
    | with_reducible refine tcne ?_ ?_
    | with_reducible refine tc ?_ ?_
    | ((with_reducible refine ref33_Rows_L0_c ?_ ?_ ?_ ?_ ?_ ?_ ?_) <;> try (first | exact rfl | with_reducible rfl | assumption | omega | solve_by_elim [szL_get, szO_f, szO_d, szO_s]))

theorem ref13_SameRows_L0_c : ∀ {m : Nat} {ts1110 : List (Int × Int × Bool × Int × Unit)} {ts1111 : List (Int × Int × Bool × Int × Unit)} {n1112 : Int} {H1 : Bool → (ι → O) → O} {H2 : (ι → O) → O} (g0 : 0 ≤ n1112) (g1 : n1112 ≤ (((List.length ts1110) : Nat) : Int)) (g2 : (((List.length ts1110) : Nat) : Int) < n1112 + m) (g3 : ts1110.length ≤ 1000000) (g4 : ts1110 = ts1111)
    (h1 : ∀ (a0 : Bool), (False) → T P (H1 a0))
    (h2 : T P H2),
    T P (fun K => ref13_SameRows_L0 m ts1110 ts1111 n1112 (fun a0 => H1 a0 K) (H2 K)) := by
  intro m
  induction m with
  | zero => intros; omega
  | succ m ih =>
    intro ts1110 ts1111 n1112 H1 H2 g0 g1 g2 g3 g4 h1 h2
    rw [ref13_SameRows_L0]
    unfold ref13_SameRows_L0.body
    have := wr64 ((n1112 + (1 : Int)))
    subst g4
    repeat' first
      | (intro q; try subst q)
      | ((with_reducible refine h1 _ ?_) <;> try (first | contradiction | (simp_all; done) | with_reducible rfl | assumption | omega | solve_by_elim [szL_get, szO_f, szO_d, szO_s]))
      | ((with_reducible refine h2))
      | ((with_reducible refine tna ?_ ?_ ?_); omega; omega)
      | ((with_reducible refine tnb ?_ ?_); focus (first | omega | (first | contradiction | (simp_all; done) | with_reducible rfl | assumption | omega | solve_by_elim [szL_get, szO_f, szO_d, szO_s])))
      | ((with_reducible refine tn ?_ ?_); assumption)
      | with_reducible refine tct ?_
      | with_reducible refine tcf ?_
      | with_reducible refine tcn ?_
      | with_reducible refine tcd ?_ ?_
      | with_reducible refine tce ?_ ?_
      | with_reducible refine tcne ?_ ?_
      | with_reducible refine tc ?_ ?_
      | ((with_reducible refine ih ?_ ?_ ?_ ?_ ?_ h1 h2) <;> try (first | contradiction | (simp_all; done) | with_reducible rfl | assumption | omega | solve_by_elim [szL_get, szO_f, szO_d, szO_s]))

theorem ref13_SameRows_c {ts1108 : List (Int × Int × Bool × Int × Unit)} {ts1109 : List (Int × Int × Bool × Int × Unit)} {H1 : Bool → (ι → O) → O} (g0 : ts1108.length ≤ 1000000) (g1 : ts1108 = ts1109)
    (h1 : ∀ (a0 : Bool), (a0 = true) → T P (H1 a0)) :
    T P (fun K => ref13_SameRows ts1108 ts1109 (fun a0 => H1 a0 K)) := by
  unfold ref13_SameRows ref13_SameRows.body
  have := rb
  subst g1
  repeat' first
    | (intro q; try subst q)
    | ((with_reducible refine h1 _ ?_) <;> try (first | contradiction | (exact absurd rfl (by assumption)) | with_reducible rfl | assumption | omega | solve_by_elim [szL_get, szO_f, szO_d, szO_s]))
    | ((with_reducible refine tna ?_ ?_ ?_); omega; omega)
    | ((with_reducible refine tnb ?_ ?_); focus (first | omega | (first | contradiction | (exact absurd rfl (by assumption)) | with_reducible rfl | assumption | omega | solve_by_elim [szL_get, szO_f, szO_d, szO_s])))
    | ((with_reducible refine tn ?_ ?_); assumption)
    | with_reducible refine tct ?_
    | with_reducible refine tcf ?_
    | with_reducible refine tcn ?_
    | with_reducible refine tcd ?_ ?_
    | with_reducible refine tce ?_ ?_
    | with_reducible refine tcne ?_ ?_
    | with_reducible refine tc ?_ ?_
    | ((with_reducible refine ref13_SameRows_L0_c ?_ ?_ ?_ ?_ ?_ ?_ ?_) <;> try (first | contradiction | (exact absurd rfl (by assumption)) | with_reducible rfl | assumption | omega | solve_by_elim [szL_get, szO_f, szO_d, szO_s]))

set_option maxHeartbeats 4000000 in
theorem runs_Make_L0_c : ∀ {m : Nat} {ts1142 : List (Int × Int × Bool × Int × Unit)} {n1143 : Int} {n1144 : Int} {ts1145 : List (Int × Int × Int × Bool × Int × Unit)} {H1 : (List (Int × Int × Int × Bool × Int × Unit)) → (ι → O) → O} (g0 : 0 ≤ n1144) (g1 : n1144 ≤ n1143) (g2 : n1143 ≤ 1000000) (g3 : n1143 < n1144 + m) (g4 : ts1142.length ≤ 1000000) (g5 : n1143 = (ts1142.length : Int)) (g6 : ts1145 = mkV ts1142 (Int.toNat n1144))
    (h1 : ∀ (a0 : List (Int × Int × Int × Bool × Int × Unit)), (a0 = mkV ts1142 ts1142.length) → T P (H1 a0)),
    T P (fun K => runs_Make_L0 m ts1142 n1143 n1144 ts1145 (fun a0 => H1 a0 K)) := by
  intro m
  induction m with
  | zero => intros; omega
  | succ m ih =>
    intro ts1142 n1143 n1144 ts1145 H1 g0 g1 g2 g3 g4 g5 g6 h1
    rw [runs_Make_L0]
    unfold runs_Make_L0.body
    have := wr64 (((((List.length ts1145) : Nat) : Int) - (1 : Int)))
    have := wr64 ((n1144 + (1 : Int)))
    have hm := mkV_len (rows := ts1142) (Int.toNat n1144)
    rw [← g6] at hm
    repeat' first
      | (intro q; try subst q)
      | ((with_reducible refine h1 _ ?_) <;> try (first | exact mk_psame (by assumption) (by assumption) (by omega) (by omega) (by assumption) (by assumption) | exact mk_pmore (by assumption) (by assumption) (by omega) (by omega) (by assumption) (by assumption) | exact mk_pfirst (by assumption) (by assumption) (by omega) (by omega) (by assumption) | (rw [show ts1142.length = Int.toNat n1144 from by omega]; assumption) | (simp only [List.length_append, List.length_cons, List.length_nil] <;> omega) | with_reducible rfl | assumption | omega | solve_by_elim [szL_get, szO_f, szO_d, szO_s]))
      | ((with_reducible refine tna ?_ ?_ ?_); omega; omega)
      | ((with_reducible refine tnb ?_ ?_); focus (first | omega | (first | exact mk_psame (by assumption) (by assumption) (by omega) (by omega) (by assumption) (by assumption) | exact mk_pmore (by assumption) (by assumption) (by omega) (by omega) (by assumption) (by assumption) | exact mk_pfirst (by assumption) (by assumption) (by omega) (by omega) (by assumption) | (rw [show ts1142.length = Int.toNat n1144 from by omega]; assumption) | (simp only [List.length_append, List.length_cons, List.length_nil] <;> omega) | with_reducible rfl | assumption | omega | solve_by_elim [szL_get, szO_f, szO_d, szO_s])))
      | ((with_reducible refine tn ?_ ?_); assumption)
      | with_reducible refine tct ?_
      | with_reducible refine tcf ?_
      | with_reducible refine tcn ?_
      | with_reducible refine tcd ?_ ?_
      | with_reducible refine tce ?_ ?_
      | with_reducible refine tcne ?_ ?_
      | with_reducible refine tc ?_ ?_
      | ((with_reducible refine ih ?_ ?_ ?_ ?_ ?_ ?_ ?_ h1) <;> try (first | exact mk_psame (by assumption) (by assumption) (by omega) (by omega) (by assumption) (by assumption) | exact mk_pmore (by assumption) (by assumption) (by omega) (by omega) (by assumption) (by assumption) | exact mk_pfirst (by assumption) (by assumption) (by omega) (by omega) (by assumption) | (rw [show ts1142.length = Int.toNat n1144 from by omega]; assumption) | (simp only [List.length_append, List.length_cons, List.length_nil] <;> omega) | with_reducible rfl | assumption | omega | solve_by_elim [szL_get, szO_f, szO_d, szO_s]))

theorem runs_Make_c {ts1141 : List (Int × Int × Bool × Int × Unit)} {H1 : (List (Int × Int × Int × Bool × Int × Unit)) → (ι → O) → O} (g0 : ts1141.length ≤ 1000000)
    (h1 : ∀ (a0 : List (Int × Int × Int × Bool × Int × Unit)), (a0 = mkV ts1141 ts1141.length) → T P (H1 a0)) :
    T P (fun K => runs_Make ts1141 (fun a0 => H1 a0 K)) := by
  unfold runs_Make runs_Make.body
  have := rb
  repeat' first
    | (intro q; try subst q)
    | ((with_reducible refine h1 _ ?_) <;> try (first | exact rfl | with_reducible rfl | assumption | omega | solve_by_elim [szL_get, szO_f, szO_d, szO_s]))
    | ((with_reducible refine tna ?_ ?_ ?_); omega; omega)
    | ((with_reducible refine tnb ?_ ?_); focus (first | omega | (first | exact rfl | with_reducible rfl | assumption | omega | solve_by_elim [szL_get, szO_f, szO_d, szO_s])))
    | ((with_reducible refine tn ?_ ?_); assumption)
    | with_reducible refine tct ?_
    | with_reducible refine tcf ?_
    | with_reducible refine tcn ?_
    | with_reducible refine tcd ?_ ?_
    | with_reducible refine tce ?_ ?_
    | with_reducible refine tcne ?_ ?_
    | with_reducible refine tc ?_ ?_
    | ((with_reducible refine runs_Make_L0_c ?_ ?_ ?_ ?_ ?_ ?_ ?_ ?_) <;> try (first | exact rfl | with_reducible rfl | assumption | omega | solve_by_elim [szL_get, szO_f, szO_d, szO_s]))

theorem table_Make_c {t1138 : Prog} {t1139 : Plan} {H1 : (List (Int × Int × Int × Bool × Int × Unit)) → (ι → O) → O} (g0 : few25 t1138)
    (h1 : ∀ (a0 : List (Int × Int × Int × Bool × Int × Unit)), (a0 = mkV (rowsV t1138 t1139 t1138.1.length) (rowsV t1138 t1139 t1138.1.length).length) → T P (H1 a0)) :
    T P (fun K => table_Make t1138 t1139 (fun a0 => H1 a0 K)) := by
  unfold table_Make table_Make.body
  repeat' first
    | (intro q; try subst q)
    | ((with_reducible refine h1 _ ?_) <;> try (first | exact rows_leP (by assumption) | with_reducible rfl | assumption | omega | solve_by_elim [szL_get, szO_f, szO_d, szO_s]))
    | ((with_reducible refine tna ?_ ?_ ?_); omega; omega)
    | ((with_reducible refine tnb ?_ ?_); focus (first | omega | (first | exact rows_leP (by assumption) | with_reducible rfl | assumption | omega | solve_by_elim [szL_get, szO_f, szO_d, szO_s])))
    | ((with_reducible refine tn ?_ ?_); assumption)
    | with_reducible refine tct ?_
    | with_reducible refine tcf ?_
    | with_reducible refine tcn ?_
    | with_reducible refine tcd ?_ ?_
    | with_reducible refine tce ?_ ?_
    | with_reducible refine tcne ?_ ?_
    | with_reducible refine tc ?_ ?_
    | ((with_reducible refine table_Rows_c ?_ ?_) <;> try (first | exact rows_leP (by assumption) | with_reducible rfl | assumption | omega | solve_by_elim [szL_get, szO_f, szO_d, szO_s]))
    | ((with_reducible refine runs_Make_c ?_ ?_) <;> try (first | exact rows_leP (by assumption) | with_reducible rfl | assumption | omega | solve_by_elim [szL_get, szO_f, szO_d, szO_s]))

set_option maxHeartbeats 4000000 in
theorem ref13_Make_L0_c : ∀ {m : Nat} {ts1176 : List (Int × Int × Bool × Int × Unit)} {n1177 : Int} {ts1178 : List (Int × Int × Int × Bool × Int × Unit)} {H1 : (List (Int × Int × Int × Bool × Int × Unit)) → (ι → O) → O} (g0 : 0 ≤ n1177) (g1 : n1177 ≤ (((List.length ts1176) : Nat) : Int)) (g2 : (((List.length ts1176) : Nat) : Int) < n1177 + m) (g3 : ts1176.length ≤ 1000000) (g4 : ts1178 = mkV ts1176 (Int.toNat n1177))
    (h1 : ∀ (a0 : List (Int × Int × Int × Bool × Int × Unit)), (a0 = mkV ts1176 ts1176.length) → T P (H1 a0)),
    T P (fun K => ref13_Make_L0 m ts1176 n1177 ts1178 (fun a0 => H1 a0 K)) := by
  intro m
  induction m with
  | zero => intros; omega
  | succ m ih =>
    intro ts1176 n1177 ts1178 H1 g0 g1 g2 g3 g4 h1
    rw [ref13_Make_L0]
    unfold ref13_Make_L0.body
    have := wr64 ((n1177 - (1 : Int)))
    have := wr64 ((n1177 + (1 : Int)))
    have hm := mkV_len (rows := ts1176) (Int.toNat n1177)
    rw [← g4] at hm
    repeat' first
      | (intro q; try subst q)
      | ((with_reducible refine h1 _ ?_) <;> try (first | exact mk_rsame (by assumption) (by assumption) (by omega) (by omega) (by assumption) (by assumption) | exact mk_rmore (by assumption) (by assumption) (by omega) (by omega) (by assumption) (by assumption) | exact mk_rfirst (i := 0) (by assumption) (by assumption) (by omega) (by omega) rfl | (rw [show ts1176.length = Int.toNat n1177 from by omega]; assumption) | (simp only [List.length_append, List.length_cons, List.length_nil] <;> omega) | with_reducible rfl | assumption | omega | solve_by_elim [szL_get, szO_f, szO_d, szO_s]))
      | ((with_reducible refine tna ?_ ?_ ?_); omega; omega)
      | ((with_reducible refine tnb ?_ ?_); focus (first | omega | (first | exact mk_rsame (by assumption) (by assumption) (by omega) (by omega) (by assumption) (by assumption) | exact mk_rmore (by assumption) (by assumption) (by omega) (by omega) (by assumption) (by assumption) | exact mk_rfirst (i := 0) (by assumption) (by assumption) (by omega) (by omega) rfl | (rw [show ts1176.length = Int.toNat n1177 from by omega]; assumption) | (simp only [List.length_append, List.length_cons, List.length_nil] <;> omega) | with_reducible rfl | assumption | omega | solve_by_elim [szL_get, szO_f, szO_d, szO_s])))
      | ((with_reducible refine tn ?_ ?_); assumption)
      | with_reducible refine tct ?_
      | with_reducible refine tcf ?_
      | with_reducible refine tcn ?_
      | with_reducible refine tcd ?_ ?_
      | with_reducible refine tce ?_ ?_
      | with_reducible refine tcne ?_ ?_
      | with_reducible refine tc ?_ ?_
      | ((with_reducible refine ih ?_ ?_ ?_ ?_ ?_ h1) <;> try (first | exact mk_rsame (by assumption) (by assumption) (by omega) (by omega) (by assumption) (by assumption) | exact mk_rmore (by assumption) (by assumption) (by omega) (by omega) (by assumption) (by assumption) | exact mk_rfirst (i := 0) (by assumption) (by assumption) (by omega) (by omega) rfl | (rw [show ts1176.length = Int.toNat n1177 from by omega]; assumption) | (simp only [List.length_append, List.length_cons, List.length_nil] <;> omega) | with_reducible rfl | assumption | omega | solve_by_elim [szL_get, szO_f, szO_d, szO_s]))

theorem ref13_Make_c {ts1175 : List (Int × Int × Bool × Int × Unit)} {H1 : (List (Int × Int × Int × Bool × Int × Unit)) → (ι → O) → O} (g0 : ts1175.length ≤ 1000000)
    (h1 : ∀ (a0 : List (Int × Int × Int × Bool × Int × Unit)), (a0 = mkV ts1175 ts1175.length) → T P (H1 a0)) :
    T P (fun K => ref13_Make ts1175 (fun a0 => H1 a0 K)) := by
  unfold ref13_Make ref13_Make.body
  have := rb
  repeat' first
    | (intro q; try subst q)
    | ((with_reducible refine h1 _ ?_) <;> try (first | exact rfl | with_reducible rfl | assumption | omega | solve_by_elim [szL_get, szO_f, szO_d, szO_s]))
    | ((with_reducible refine tna ?_ ?_ ?_); omega; omega)
    | ((with_reducible refine tnb ?_ ?_); focus (first | omega | (first | exact rfl | with_reducible rfl | assumption | omega | solve_by_elim [szL_get, szO_f, szO_d, szO_s])))
    | ((with_reducible refine tn ?_ ?_); assumption)
    | with_reducible refine tct ?_
    | with_reducible refine tcf ?_
    | with_reducible refine tcn ?_
    | with_reducible refine tcd ?_ ?_
    | with_reducible refine tce ?_ ?_
    | with_reducible refine tcne ?_ ?_
    | with_reducible refine tc ?_ ?_
    | ((with_reducible refine ref13_Make_L0_c ?_ ?_ ?_ ?_ ?_ ?_) <;> try (first | exact rfl | with_reducible rfl | assumption | omega | solve_by_elim [szL_get, szO_f, szO_d, szO_s]))

theorem ref33_Make_c {t1172 : Prog} {t1173 : Plan} {H1 : (List (Int × Int × Int × Bool × Int × Unit)) → (ι → O) → O} (g0 : few25 t1172)
    (h1 : ∀ (a0 : List (Int × Int × Int × Bool × Int × Unit)), (a0 = mkV (rowsV t1172 t1173 t1172.1.length) (rowsV t1172 t1173 t1172.1.length).length) → T P (H1 a0)) :
    T P (fun K => ref33_Make t1172 t1173 (fun a0 => H1 a0 K)) := by
  unfold ref33_Make ref33_Make.body
  repeat' first
    | (intro q; try subst q)
    | ((with_reducible refine h1 _ ?_) <;> try (first | exact rows_leP (by assumption) | with_reducible rfl | assumption | omega | solve_by_elim [szL_get, szO_f, szO_d, szO_s]))
    | ((with_reducible refine tna ?_ ?_ ?_); omega; omega)
    | ((with_reducible refine tnb ?_ ?_); focus (first | omega | (first | exact rows_leP (by assumption) | with_reducible rfl | assumption | omega | solve_by_elim [szL_get, szO_f, szO_d, szO_s])))
    | ((with_reducible refine tn ?_ ?_); assumption)
    | with_reducible refine tct ?_
    | with_reducible refine tcf ?_
    | with_reducible refine tcn ?_
    | with_reducible refine tcd ?_ ?_
    | with_reducible refine tce ?_ ?_
    | with_reducible refine tcne ?_ ?_
    | with_reducible refine tc ?_ ?_
    | ((with_reducible refine ref33_Rows_c ?_ ?_) <;> try (first | exact rows_leP (by assumption) | with_reducible rfl | assumption | omega | solve_by_elim [szL_get, szO_f, szO_d, szO_s]))
    | ((with_reducible refine ref13_Make_c ?_ ?_) <;> try (first | exact rows_leP (by assumption) | with_reducible rfl | assumption | omega | solve_by_elim [szL_get, szO_f, szO_d, szO_s]))

theorem ref13_Same_L0_c : ∀ {m : Nat} {ts1184 : List (Int × Int × Int × Bool × Int × Unit)} {ts1185 : List (Int × Int × Int × Bool × Int × Unit)} {n1186 : Int} {H1 : Bool → (ι → O) → O} {H2 : (ι → O) → O} (g0 : 0 ≤ n1186) (g1 : n1186 ≤ (((List.length ts1184) : Nat) : Int)) (g2 : (((List.length ts1184) : Nat) : Int) < n1186 + m) (g3 : ts1184.length ≤ 1000000) (g4 : ts1184 = ts1185)
    (h1 : ∀ (a0 : Bool), (False) → T P (H1 a0))
    (h2 : T P H2),
    T P (fun K => ref13_Same_L0 m ts1184 ts1185 n1186 (fun a0 => H1 a0 K) (H2 K)) := by
  intro m
  induction m with
  | zero => intros; omega
  | succ m ih =>
    intro ts1184 ts1185 n1186 H1 H2 g0 g1 g2 g3 g4 h1 h2
    rw [ref13_Same_L0]
    unfold ref13_Same_L0.body
    have := wr64 ((n1186 + (1 : Int)))
    subst g4
    repeat' first
      | (intro q; try subst q)
      | ((with_reducible refine h1 _ ?_) <;> try (first | contradiction | (simp_all; done) | with_reducible rfl | assumption | omega | solve_by_elim [szL_get, szO_f, szO_d, szO_s]))
      | ((with_reducible refine h2))
      | ((with_reducible refine tna ?_ ?_ ?_); omega; omega)
      | ((with_reducible refine tnb ?_ ?_); focus (first | omega | (first | contradiction | (simp_all; done) | with_reducible rfl | assumption | omega | solve_by_elim [szL_get, szO_f, szO_d, szO_s])))
      | ((with_reducible refine tn ?_ ?_); assumption)
      | with_reducible refine tct ?_
      | with_reducible refine tcf ?_
      | with_reducible refine tcn ?_
      | with_reducible refine tcd ?_ ?_
      | with_reducible refine tce ?_ ?_
      | with_reducible refine tcne ?_ ?_
      | with_reducible refine tc ?_ ?_
      | ((with_reducible refine ih ?_ ?_ ?_ ?_ ?_ h1 h2) <;> try (first | contradiction | (simp_all; done) | with_reducible rfl | assumption | omega | solve_by_elim [szL_get, szO_f, szO_d, szO_s]))

theorem ref13_Same_c {ts1182 : List (Int × Int × Int × Bool × Int × Unit)} {ts1183 : List (Int × Int × Int × Bool × Int × Unit)} {H1 : Bool → (ι → O) → O} (g0 : ts1182.length ≤ 1000000) (g1 : ts1182 = ts1183)
    (h1 : ∀ (a0 : Bool), (a0 = true) → T P (H1 a0)) :
    T P (fun K => ref13_Same ts1182 ts1183 (fun a0 => H1 a0 K)) := by
  unfold ref13_Same ref13_Same.body
  have := rb
  subst g1
  repeat' first
    | (intro q; try subst q)
    | ((with_reducible refine h1 _ ?_) <;> try (first | contradiction | (exact absurd rfl (by assumption)) | with_reducible rfl | assumption | omega | solve_by_elim [szL_get, szO_f, szO_d, szO_s]))
    | ((with_reducible refine tna ?_ ?_ ?_); omega; omega)
    | ((with_reducible refine tnb ?_ ?_); focus (first | omega | (first | contradiction | (exact absurd rfl (by assumption)) | with_reducible rfl | assumption | omega | solve_by_elim [szL_get, szO_f, szO_d, szO_s])))
    | ((with_reducible refine tn ?_ ?_); assumption)
    | with_reducible refine tct ?_
    | with_reducible refine tcf ?_
    | with_reducible refine tcn ?_
    | with_reducible refine tcd ?_ ?_
    | with_reducible refine tce ?_ ?_
    | with_reducible refine tcne ?_ ?_
    | with_reducible refine tc ?_ ?_
    | ((with_reducible refine ref13_Same_L0_c ?_ ?_ ?_ ?_ ?_ ?_ ?_) <;> try (first | contradiction | (exact absurd rfl (by assumption)) | with_reducible rfl | assumption | omega | solve_by_elim [szL_get, szO_f, szO_d, szO_s]))


theorem ref29_start_L0_c : ∀ {m : Nat} {n1207 : Int} {n1208 : Int} {n1209 : Int} {t1210 : Prog} {t1211 : Plan} {H1 : Int → (ι → O) → O} (g0 : 0 ≤ n1209) (g1 : n1209 ≤ n1207) (g2 : n1207 ≤ 1000000) (g3 : n1207 < n1209 + m) (g4 : few25 t1210) (g5 : n1207 ≤ (t1210.1.length : Int)) (g6 : n1208 = startV t1210 t1211 (Int.toNat n1209))
    (h1 : ∀ (a0 : Int), (a0 = startV t1210 t1211 (Int.toNat n1207)) → T P (H1 a0)),
    T P (fun K => ref29_start_L0 m n1207 n1208 n1209 t1210 t1211 (fun a0 => H1 a0 K)) := by
  intro m
  induction m with
  | zero => intros; omega
  | succ m ih =>
    intro n1207 n1208 n1209 t1210 t1211 H1 g0 g1 g2 g3 g4 g5 g6 h1
    rw [ref29_start_L0]
    unfold ref29_start_L0.body
    have := wr64 ((n1209 + (1 : Int)))
    have := g4.1
    repeat' first
      | (intro q; try subst q)
      | ((with_reducible refine h1 _ ?_) <;> try (first | exact start_next (by assumption) (by assumption) (by omega) (by omega) | exact mapR_nil | contradiction | (simp only [List.length_append, List.length_cons, List.length_nil] <;> omega) | (rw [show n1207 = n1209 from by omega]; assumption) | with_reducible rfl | assumption | omega | solve_by_elim [szL_get, szO_f, szO_d, szO_s]))
      | ((with_reducible refine tna ?_ ?_ ?_); omega; omega)
      | ((with_reducible refine tnb ?_ ?_); focus (first | omega | (first | exact start_next (by assumption) (by assumption) (by omega) (by omega) | exact mapR_nil | contradiction | (simp only [List.length_append, List.length_cons, List.length_nil] <;> omega) | (rw [show n1207 = n1209 from by omega]; assumption) | with_reducible rfl | assumption | omega | solve_by_elim [szL_get, szO_f, szO_d, szO_s])))
      | ((with_reducible refine tn ?_ ?_); assumption)
      | with_reducible refine tct ?_
      | with_reducible refine tcf ?_
      | with_reducible refine tcn ?_
      | with_reducible refine tcd ?_ ?_
      | with_reducible refine tce ?_ ?_
      | with_reducible refine tcne ?_ ?_
      | with_reducible refine tc ?_ ?_
      | ((with_reducible refine ih ?_ ?_ ?_ ?_ ?_ ?_ ?_ h1) <;> try (first | exact start_next (by assumption) (by assumption) (by omega) (by omega) | exact mapR_nil | contradiction | (simp only [List.length_append, List.length_cons, List.length_nil] <;> omega) | (rw [show n1207 = n1209 from by omega]; assumption) | with_reducible rfl | assumption | omega | solve_by_elim [szL_get, szO_f, szO_d, szO_s]))
      | ((with_reducible refine ref28_Size_c ?_))

theorem ref29_start_c {t1204 : Prog} {t1205 : Plan} {n1206 : Int} {H1 : Int → (ι → O) → O} (g0 : few25 t1204) (g1 : 0 ≤ n1206) (g2 : n1206 ≤ (t1204.1.length : Int))
    (h1 : ∀ (a0 : Int), (a0 = startV t1204 t1205 (Int.toNat n1206)) → T P (H1 a0)) :
    T P (fun K => ref29_start t1204 t1205 n1206 (fun a0 => H1 a0 K)) := by
  unfold ref29_start ref29_start.body
  have := rb
  have := g0.1
  repeat' first
    | (intro q; try subst q)
    | ((with_reducible refine h1 _ ?_) <;> try (first | with_reducible rfl | assumption | omega | solve_by_elim [szL_get, szO_f, szO_d, szO_s]))
    | ((with_reducible refine tna ?_ ?_ ?_); omega; omega)
    | ((with_reducible refine tnb ?_ ?_); focus (first | omega | (first | with_reducible rfl | assumption | omega | solve_by_elim [szL_get, szO_f, szO_d, szO_s])))
    | ((with_reducible refine tn ?_ ?_); assumption)
    | with_reducible refine tct ?_
    | with_reducible refine tcf ?_
    | with_reducible refine tcn ?_
    | with_reducible refine tcd ?_ ?_
    | with_reducible refine tce ?_ ?_
    | with_reducible refine tcne ?_ ?_
    | with_reducible refine tc ?_ ?_
    | ((with_reducible refine ref29_start_L0_c ?_ ?_ ?_ ?_ ?_ ?_ ?_ ?_) <;> try (first | with_reducible rfl | assumption | omega | solve_by_elim [szL_get, szO_f, szO_d, szO_s]))

theorem ref29_Fns_L0_c : ∀ {m : Nat} {n1199 : Int} {t1200 : Prog} {t1201 : Plan} {ts1202 : List (Int × Int × Int × Int × Int × Int × Unit)} {H1 : (List (Int × Int × Int × Int × Int × Int × Unit)) → (ι → O) → O} (g0 : 0 ≤ n1199) (g1 : n1199 ≤ (((List.length t1200.1) : Nat) : Int)) (g2 : (((List.length t1200.1) : Nat) : Int) < n1199 + m) (g3 : few25 t1200) (g4 : ts1202 = fnsV t1200 t1201 (Int.toNat n1199)) (g5 : (ts1202.length : Int) ≤ n1199)
    (h1 : ∀ (a0 : List (Int × Int × Int × Int × Int × Int × Unit)), (a0 = fnsV t1200 t1201 t1200.1.length) → T P (H1 a0)),
    T P (fun K => ref29_Fns_L0 m n1199 t1200 t1201 ts1202 (fun a0 => H1 a0 K)) := by
  intro m
  induction m with
  | zero => intros; omega
  | succ m ih =>
    intro n1199 t1200 t1201 ts1202 H1 g0 g1 g2 g3 g4 g5 h1
    rw [ref29_Fns_L0]
    unfold ref29_Fns_L0.body
    have := wr64 ((n1199 + (1 : Int)))
    have := g3.1
    repeat' first
      | (intro q; try subst q)
      | ((with_reducible refine h1 _ ?_) <;> try (first | exact fn_same (by assumption) (by assumption) (by assumption) (by omega) (by omega) (by assumption) | exact fn_more (by assumption) (by assumption) (by assumption) (by omega) (by omega) (by assumption) rfl | exact fn_skip (by assumption) (by assumption) (by assumption) (by omega) (by omega) | exact fn_ref (by assumption) (by assumption) (by assumption) (by omega) (by omega) | exact start_next (by assumption) (by assumption) (by omega) (by omega) | exact mapR_nil | contradiction | (simp only [List.length_append, List.length_cons, List.length_nil] <;> omega) | (rw [show t1200.1.length = Int.toNat n1199 from by omega]; assumption) | with_reducible rfl | assumption | omega | solve_by_elim [szL_get, szO_f, szO_d, szO_s]))
      | ((with_reducible refine tna ?_ ?_ ?_); omega; omega)
      | ((with_reducible refine tnb ?_ ?_); focus (first | omega | (first | exact fn_same (by assumption) (by assumption) (by assumption) (by omega) (by omega) (by assumption) | exact fn_more (by assumption) (by assumption) (by assumption) (by omega) (by omega) (by assumption) rfl | exact fn_skip (by assumption) (by assumption) (by assumption) (by omega) (by omega) | exact fn_ref (by assumption) (by assumption) (by assumption) (by omega) (by omega) | exact start_next (by assumption) (by assumption) (by omega) (by omega) | exact mapR_nil | contradiction | (simp only [List.length_append, List.length_cons, List.length_nil] <;> omega) | (rw [show t1200.1.length = Int.toNat n1199 from by omega]; assumption) | with_reducible rfl | assumption | omega | solve_by_elim [szL_get, szO_f, szO_d, szO_s])))
      | ((with_reducible refine tn ?_ ?_); assumption)
      | with_reducible refine tct ?_
      | with_reducible refine tcf ?_
      | with_reducible refine tcn ?_
      | with_reducible refine tcd ?_ ?_
      | with_reducible refine tce ?_ ?_
      | with_reducible refine tcne ?_ ?_
      | with_reducible refine tc ?_ ?_
      | ((with_reducible refine ih ?_ ?_ ?_ ?_ ?_ ?_ h1) <;> try (first | exact fn_same (by assumption) (by assumption) (by assumption) (by omega) (by omega) (by assumption) | exact fn_more (by assumption) (by assumption) (by assumption) (by omega) (by omega) (by assumption) rfl | exact fn_skip (by assumption) (by assumption) (by assumption) (by omega) (by omega) | exact fn_ref (by assumption) (by assumption) (by assumption) (by omega) (by omega) | exact start_next (by assumption) (by assumption) (by omega) (by omega) | exact mapR_nil | contradiction | (simp only [List.length_append, List.length_cons, List.length_nil] <;> omega) | (rw [show t1200.1.length = Int.toNat n1199 from by omega]; assumption) | with_reducible rfl | assumption | omega | solve_by_elim [szL_get, szO_f, szO_d, szO_s]))
      | ((with_reducible refine ref28_Kept_c ?_))
      | ((with_reducible refine ref29_start_c ?_ ?_ ?_ ?_) <;> try (first | exact fn_same (by assumption) (by assumption) (by assumption) (by omega) (by omega) (by assumption) | exact fn_more (by assumption) (by assumption) (by assumption) (by omega) (by omega) (by assumption) rfl | exact fn_skip (by assumption) (by assumption) (by assumption) (by omega) (by omega) | exact fn_ref (by assumption) (by assumption) (by assumption) (by omega) (by omega) | exact start_next (by assumption) (by assumption) (by omega) (by omega) | exact mapR_nil | contradiction | (simp only [List.length_append, List.length_cons, List.length_nil] <;> omega) | (rw [show t1200.1.length = Int.toNat n1199 from by omega]; assumption) | with_reducible rfl | assumption | omega | solve_by_elim [szL_get, szO_f, szO_d, szO_s]))
      | ((with_reducible refine ref16_Frame_c ?_))

theorem ref29_Fns_c {t1197 : Prog} {t1198 : Plan} {H1 : (List (Int × Int × Int × Int × Int × Int × Unit)) → (ι → O) → O} (g0 : few25 t1197)
    (h1 : ∀ (a0 : List (Int × Int × Int × Int × Int × Int × Unit)), (a0 = fnsV t1197 t1198 t1197.1.length) → T P (H1 a0)) :
    T P (fun K => ref29_Fns t1197 t1198 (fun a0 => H1 a0 K)) := by
  unfold ref29_Fns ref29_Fns.body
  have := rb
  have := g0.1
  repeat' first
    | (intro q; try subst q)
    | ((with_reducible refine h1 _ ?_) <;> try (first | exact Int.le_refl _ | with_reducible rfl | assumption | omega | solve_by_elim [szL_get, szO_f, szO_d, szO_s]))
    | ((with_reducible refine tna ?_ ?_ ?_); omega; omega)
    | ((with_reducible refine tnb ?_ ?_); focus (first | omega | (first | exact Int.le_refl _ | with_reducible rfl | assumption | omega | solve_by_elim [szL_get, szO_f, szO_d, szO_s])))
    | ((with_reducible refine tn ?_ ?_); assumption)
    | with_reducible refine tct ?_
    | with_reducible refine tcf ?_
    | with_reducible refine tcn ?_
    | with_reducible refine tcd ?_ ?_
    | with_reducible refine tce ?_ ?_
    | with_reducible refine tcne ?_ ?_
    | with_reducible refine tc ?_ ?_
    | ((with_reducible refine ref29_Fns_L0_c ?_ ?_ ?_ ?_ ?_ ?_ ?_) <;> try (first | exact Int.le_refl _ | with_reducible rfl | assumption | omega | solve_by_elim [szL_get, szO_f, szO_d, szO_s]))

theorem ref29_Code_c {t1226 : Prog} {t1227 : Plan} {H1 : Int → (ι → O) → O} (g0 : few25 t1226)
    (h1 : ∀ (a0 : Int), (a0 = startV t1226 t1227 t1226.1.length) → T P (H1 a0)) :
    T P (fun K => ref29_Code t1226 t1227 (fun a0 => H1 a0 K)) := by
  unfold ref29_Code ref29_Code.body
  have := g0.1
  repeat' first
    | (intro q; try subst q)
    | ((with_reducible refine h1 _ ?_) <;> try (first | (simp only [Int.toNat_natCast] at *; assumption) | with_reducible rfl | assumption | omega | solve_by_elim [szL_get, szO_f, szO_d, szO_s]))
    | ((with_reducible refine tna ?_ ?_ ?_); omega; omega)
    | ((with_reducible refine tnb ?_ ?_); focus (first | omega | (first | (simp only [Int.toNat_natCast] at *; assumption) | with_reducible rfl | assumption | omega | solve_by_elim [szL_get, szO_f, szO_d, szO_s])))
    | ((with_reducible refine tn ?_ ?_); assumption)
    | with_reducible refine tct ?_
    | with_reducible refine tcf ?_
    | with_reducible refine tcn ?_
    | with_reducible refine tcd ?_ ?_
    | with_reducible refine tce ?_ ?_
    | with_reducible refine tcne ?_ ?_
    | with_reducible refine tc ?_ ?_
    | ((with_reducible refine ref29_start_c ?_ ?_ ?_ ?_) <;> try (first | (simp only [Int.toNat_natCast] at *; assumption) | with_reducible rfl | assumption | omega | solve_by_elim [szL_get, szO_f, szO_d, szO_s]))

theorem ref13_At_L0_c : ∀ {m : Nat} {ts1232 : List (Int × Int × Int × Bool × Int × Unit)} {n1233 : Int} {b1234 : Bool} {n1235 : Int} {t1236 : Int × Int × Bool × Int × Unit} {t1237 : Int × Int × Bool × Int × Unit} {H1 : Bool → (Int × Int × Bool × Int × Unit) → (Int × Int × Bool × Int × Unit) → (ι → O) → O} (g0 : 0 ≤ n1235) (g1 : n1235 ≤ (((List.length ts1232) : Nat) : Int)) (g2 : (((List.length ts1232) : Nat) : Int) < n1235 + m) (g3 : ts1232.length ≤ 1000000) (g4 : atW (List.drop (Int.toNat n1235) ts1232) n1233 (t1237, b1234) = atW ts1232 n1233 (((0 : Int), ((0 : Int), (false, ((0 : Int), ())))), false))
    (h1 : ∀ (a0 : Bool) (a1 : Int × Int × Bool × Int × Unit) (a2 : Int × Int × Bool × Int × Unit), t1236 = a1 → ((a2, a0) = atW ts1232 n1233 (((0 : Int), ((0 : Int), (false, ((0 : Int), ())))), false)) → T P (H1 a0 a1 a2)),
    T P (fun K => ref13_At_L0 m ts1232 n1233 b1234 n1235 t1236 t1237 (fun a0 a1 a2 => H1 a0 a1 a2 K)) := by
  intro m
  induction m with
  | zero => intros; omega
  | succ m ih =>
    intro ts1232 n1233 b1234 n1235 t1236 t1237 H1 g0 g1 g2 g3 g4 h1
    rw [ref13_At_L0]
    unfold ref13_At_L0.body
    have := wr64 ((n1235 + (1 : Int)))
    repeat' first
      | (intro q; try subst q)
      | ((with_reducible refine h1 _ _ _ ?_ ?_) <;> try (first | exact at_next (by assumption) (by assumption) (by omega) (by omega) (by assumption) | exact at_stop (by assumption) (by omega) (by omega) (by assumption) | exact at_end (by assumption) (by omega) | with_reducible rfl | assumption | omega | solve_by_elim [szL_get, szO_f, szO_d, szO_s]))
      | ((with_reducible refine tna ?_ ?_ ?_); omega; omega)
      | ((with_reducible refine tnb ?_ ?_); focus (first | omega | (first | exact at_next (by assumption) (by assumption) (by omega) (by omega) (by assumption) | exact at_stop (by assumption) (by omega) (by omega) (by assumption) | exact at_end (by assumption) (by omega) | with_reducible rfl | assumption | omega | solve_by_elim [szL_get, szO_f, szO_d, szO_s])))
      | ((with_reducible refine tn ?_ ?_); assumption)
      | with_reducible refine tct ?_
      | with_reducible refine tcf ?_
      | with_reducible refine tcn ?_
      | with_reducible refine tcd ?_ ?_
      | with_reducible refine tce ?_ ?_
      | with_reducible refine tcne ?_ ?_
      | with_reducible refine tc ?_ ?_
      | ((with_reducible refine ih ?_ ?_ ?_ ?_ ?_ h1) <;> try (first | exact at_next (by assumption) (by assumption) (by omega) (by omega) (by assumption) | exact at_stop (by assumption) (by omega) (by omega) (by assumption) | exact at_end (by assumption) (by omega) | with_reducible rfl | assumption | omega | solve_by_elim [szL_get, szO_f, szO_d, szO_s]))

theorem ref13_At_c {ts1230 : List (Int × Int × Int × Bool × Int × Unit)} {n1231 : Int} {H1 : (Int × Int × Bool × Int × Unit) → Bool → (ι → O) → O} (g0 : ts1230.length ≤ 1000000)
    (h1 : ∀ (a0 : Int × Int × Bool × Int × Unit) (a1 : Bool), ((a0, a1) = atW ts1230 n1231 (((0 : Int), ((0 : Int), (false, ((0 : Int), ())))), false)) → T P (H1 a0 a1)) :
    T P (fun K => ref13_At ts1230 n1231 (fun a0 a1 => H1 a0 a1 K)) := by
  unfold ref13_At ref13_At.body
  have := rb
  repeat' first
    | (intro q; try subst q)
    | ((with_reducible refine h1 _ _ ?_) <;> try (first | exact rfl | with_reducible rfl | assumption | omega | solve_by_elim [szL_get, szO_f, szO_d, szO_s]))
    | ((with_reducible refine tna ?_ ?_ ?_); omega; omega)
    | ((with_reducible refine tnb ?_ ?_); focus (first | omega | (first | exact rfl | with_reducible rfl | assumption | omega | solve_by_elim [szL_get, szO_f, szO_d, szO_s])))
    | ((with_reducible refine tn ?_ ?_); assumption)
    | with_reducible refine tct ?_
    | with_reducible refine tcf ?_
    | with_reducible refine tcn ?_
    | with_reducible refine tcd ?_ ?_
    | with_reducible refine tce ?_ ?_
    | with_reducible refine tcne ?_ ?_
    | with_reducible refine tc ?_ ?_
    | ((with_reducible refine ref13_At_L0_c ?_ ?_ ?_ ?_ ?_ ?_) <;> try (first | exact rfl | with_reducible rfl | assumption | omega | solve_by_elim [szL_get, szO_f, szO_d, szO_s]))

theorem slices_IndexFunc_api_Fn_api_Fnv1_L0_c : ∀ {m : Nat} {ts1247 : List (Int × Int × Int × Int × Int × Int × Unit)} {n1248 : Int} {n1249 : Int} {n1250 : Int} {H1 : Int → Int → (ι → O) → O} {H2 : Int → (ι → O) → O} (g0 : 0 ≤ n1249) (g1 : n1249 ≤ n1248) (g2 : n1248 ≤ 1000000) (g3 : n1248 < n1249 + m) (g4 : ts1247.length ≤ 1000000) (g5 : n1248 = (ts1247.length : Int)) (g6 : sI (List.drop (Int.toNat n1249) ts1247) n1249 n1250 = sI ts1247 0 n1250)
    (h1 : ∀ (a0 : Int) (a1 : Int), n1250 = a1 → (a0 = sI ts1247 0 n1250) → (0 ≤ a0) → (a0 < (ts1247.length : Int)) → T P (H1 a0 a1))
    (h2 : ∀ (a0 : Int), n1250 = a0 → (sI ts1247 0 n1250 = -1) → T P (H2 a0)),
    T P (fun K => slices_IndexFunc_api_Fn_api_Fnv1_L0 m ts1247 n1248 n1249 n1250 (fun a0 a1 => H1 a0 a1 K) (fun a0 => H2 a0 K)) := by
  intro m
  induction m with
  | zero => intros; omega
  | succ m ih =>
    intro ts1247 n1248 n1249 n1250 H1 H2 g0 g1 g2 g3 g4 g5 g6 h1 h2
    rw [slices_IndexFunc_api_Fn_api_Fnv1_L0]
    unfold slices_IndexFunc_api_Fn_api_Fnv1_L0.body
    have := wr64 ((n1249 + (1 : Int)))
    repeat' first
      | (intro q; try subst q)
      | ((with_reducible refine h1 _ _ ?_ ?_ ?_ ?_) <;> try (first | exact si_hit (by assumption) (by omega) (by omega) (by assumption) | exact si_next (by assumption) (by assumption) (by omega) (by omega) (by assumption) | exact si_end (by assumption) (by omega) | with_reducible rfl | assumption | omega | solve_by_elim [szL_get, szO_f, szO_d, szO_s]))
      | ((with_reducible refine h2 _ ?_ ?_) <;> try (first | exact si_hit (by assumption) (by omega) (by omega) (by assumption) | exact si_next (by assumption) (by assumption) (by omega) (by omega) (by assumption) | exact si_end (by assumption) (by omega) | with_reducible rfl | assumption | omega | solve_by_elim [szL_get, szO_f, szO_d, szO_s]))
      | ((with_reducible refine tna ?_ ?_ ?_); omega; omega)
      | ((with_reducible refine tnb ?_ ?_); focus (first | omega | (first | exact si_hit (by assumption) (by omega) (by omega) (by assumption) | exact si_next (by assumption) (by assumption) (by omega) (by omega) (by assumption) | exact si_end (by assumption) (by omega) | with_reducible rfl | assumption | omega | solve_by_elim [szL_get, szO_f, szO_d, szO_s])))
      | ((with_reducible refine tn ?_ ?_); assumption)
      | with_reducible refine tct ?_
      | with_reducible refine tcf ?_
      | with_reducible refine tcn ?_
      | with_reducible refine tcd ?_ ?_
      | with_reducible refine tce ?_ ?_
      | with_reducible refine tcne ?_ ?_
      | with_reducible refine tc ?_ ?_
      | ((with_reducible refine ih ?_ ?_ ?_ ?_ ?_ ?_ ?_ h1 h2) <;> try (first | exact si_hit (by assumption) (by omega) (by omega) (by assumption) | exact si_next (by assumption) (by assumption) (by omega) (by omega) (by assumption) | exact si_end (by assumption) (by omega) | with_reducible rfl | assumption | omega | solve_by_elim [szL_get, szO_f, szO_d, szO_s]))
      | ((with_reducible refine table_Sourcefn1_c ?_))

theorem slices_IndexFunc_api_Fn_api_Fnv1_c {ts1245 : List (Int × Int × Int × Int × Int × Int × Unit)} {n1246 : Int} {H1 : Int → Int → (ι → O) → O} (g0 : ts1245.length ≤ 1000000)
    (h1 : ∀ (a0 : Int) (a1 : Int), n1246 = a1 → (a0 = sI ts1245 0 n1246) → (-1 ≤ a0) → (a0 < (ts1245.length : Int)) → T P (H1 a0 a1)) :
    T P (fun K => slices_IndexFunc_api_Fn_api_Fnv1 ts1245 n1246 (fun a0 a1 => H1 a0 a1 K)) := by
  unfold slices_IndexFunc_api_Fn_api_Fnv1 slices_IndexFunc_api_Fn_api_Fnv1.body
  have := rb
  repeat' first
    | (intro q; try subst q)
    | ((with_reducible refine h1 _ _ ?_ ?_ ?_ ?_) <;> try (first | exact rfl | exact Eq.symm (by assumption) | with_reducible rfl | assumption | omega | solve_by_elim [szL_get, szO_f, szO_d, szO_s]))
    | ((with_reducible refine tna ?_ ?_ ?_); omega; omega)
    | ((with_reducible refine tnb ?_ ?_); focus (first | omega | (first | exact rfl | exact Eq.symm (by assumption) | with_reducible rfl | assumption | omega | solve_by_elim [szL_get, szO_f, szO_d, szO_s])))
    | ((with_reducible refine tn ?_ ?_); assumption)
    | with_reducible refine tct ?_
    | with_reducible refine tcf ?_
    | with_reducible refine tcn ?_
    | with_reducible refine tcd ?_ ?_
    | with_reducible refine tce ?_ ?_
    | with_reducible refine tcne ?_ ?_
    | with_reducible refine tc ?_ ?_
    | ((with_reducible refine slices_IndexFunc_api_Fn_api_Fnv1_L0_c ?_ ?_ ?_ ?_ ?_ ?_ ?_ ?_ ?_) <;> try (first | exact rfl | exact Eq.symm (by assumption) | with_reducible rfl | assumption | omega | solve_by_elim [szL_get, szO_f, szO_d, szO_s]))

theorem table_Sourcev1_c {ts1243 : List (Int × Int × Int × Int × Int × Int × Unit)} {n1244 : Int} {H1 : Int → Int → Bool → (ι → O) → O} (g0 : ts1243.length ≤ 1000000)
    (h1 : ∀ (a0 : Int) (a1 : Int) (a2 : Bool), (a0 = (srcV ts1243 n1244).1) → (a1 = (srcV ts1243 n1244).2.1) → (a2 = (srcV ts1243 n1244).2.2) → T P (H1 a0 a1 a2)) :
    T P (fun K => table_Sourcev1 ts1243 n1244 (fun a0 a1 a2 => H1 a0 a1 a2 K)) := by
  unfold table_Sourcev1 table_Sourcev1.body
  repeat' first
    | (intro q; try subst q)
    | ((with_reducible refine h1 _ _ _ ?_ ?_ ?_) <;> try (first | (rw [src_no (by assumption)]) | (rw [src_yes (by omega)]) | (rw [src_no (by assumption)]; rfl) | (rw [src_yes (by omega)]; rfl) | with_reducible rfl | assumption | omega | solve_by_elim [szL_get, szO_f, szO_d, szO_s]))
    | ((with_reducible refine tna ?_ ?_ ?_); omega; omega)
    | ((with_reducible refine tnb ?_ ?_); focus (first | omega | (first | (rw [src_no (by assumption)]) | (rw [src_yes (by omega)]) | (rw [src_no (by assumption)]; rfl) | (rw [src_yes (by omega)]; rfl) | with_reducible rfl | assumption | omega | solve_by_elim [szL_get, szO_f, szO_d, szO_s])))
    | ((with_reducible refine tn ?_ ?_); assumption)
    | with_reducible refine tct ?_
    | with_reducible refine tcf ?_
    | with_reducible refine tcn ?_
    | with_reducible refine tcd ?_ ?_
    | with_reducible refine tce ?_ ?_
    | with_reducible refine tcne ?_ ?_
    | with_reducible refine tc ?_ ?_
    | ((with_reducible refine slices_IndexFunc_api_Fn_api_Fnv1_c ?_ ?_) <;> try (first | (rw [src_no (by assumption)]) | (rw [src_yes (by omega)]) | (rw [src_no (by assumption)]; rfl) | (rw [src_yes (by omega)]; rfl) | with_reducible rfl | assumption | omega | solve_by_elim [szL_get, szO_f, szO_d, szO_s]))

theorem ref24_Fun_L0_c {p : Prog} {q : Nat} (hp : few25 p) (hd : idD p.1) (hq : q < p.1.length) : ∀ {m : Nat} {i : Int} {H1 : Int → (ι → O) → O} {H2 : (ι → O) → O}, 0 ≤ i → i ≤ (q : Int) → (q : Int) < i + m → T P (H1 (q : Int)) → T P (fun K => ref24_Fun_L0 m (List.getD p.1 q ((0 : Int), ((0 : Int), ((⟨#[]⟩ : ByteArray), ((0 : Int), ([], ((0 : Int), (false, ((0 : Int), ((0 : Int), ([], ([], ([], ([], ())))))))))))))).1 (List.getD p.1 q ((0 : Int), ((0 : Int), ((⟨#[]⟩ : ByteArray), ((0 : Int), ([], ((0 : Int), (false, ((0 : Int), ((0 : Int), ([], ([], ([], ([], ())))))))))))))).2.1 i p (fun a => H1 a K) (H2 K)) := by
  have hl := hp.1
  intro m
  induction m with
  | zero => intros; omega
  | succ m ih =>
    intro i H1 H2 g0 g1 g2 h1
    rw [ref24_Fun_L0]
    unfold ref24_Fun_L0.body
    obtain ⟨e1, e2, e3⟩ := wi g0 (show i < (p.1.length : Int) by omega) (by omega)
    by_cases hi : i = (q : Int)
    · subst hi
      rw [Int.toNat_natCast]
      exact tcd (fun _ => tna (by omega) (by omega) (tce (fun _ => tna (by omega) (by omega) (tce (fun _ => h1) (fun h => absurd rfl h))) (fun h => absurd rfl h))) (fun h => by omega)
    · have hno := fun he => idD_at hd (show i.toNat < q by omega) hq he
      refine tcd (fun _ => tna (by omega) (by omega) (tce (fun h3 => tna (by omega) (by omega) (tce (fun h4 => (hno ⟨h3, h4⟩).elim) (fun _ => ?_))) (fun _ => ?_))) (fun h => by omega)
      · rw [e1]; exact ih (by omega) (by omega) (by omega) h1
      · rw [e1]; exact ih (by omega) (by omega) (by omega) h1

theorem ref24_Fun_c {p : Prog} {q : Nat} (hp : few25 p) (hd : idD p.1) (hq : q < p.1.length) {H1 : Int → (ι → O) → O} (h1 : T P (H1 (q : Int))) : T P (fun K => ref24_Fun p (List.getD p.1 q ((0 : Int), ((0 : Int), ((⟨#[]⟩ : ByteArray), ((0 : Int), ([], ((0 : Int), (false, ((0 : Int), ((0 : Int), ([], ([], ([], ([], ())))))))))))))).1 (List.getD p.1 q ((0 : Int), ((0 : Int), ((⟨#[]⟩ : ByteArray), ((0 : Int), ([], ((0 : Int), (false, ((0 : Int), ((0 : Int), ([], ([], ([], ([], ())))))))))))))).2.1 (fun a => H1 a K)) := by
  have := rb
  have hl := hp.1
  unfold ref24_Fun ref24_Fun.body
  exact ref24_Fun_L0_c (H1 := H1) (H2 := fun K => H1 (-1) K) hp hd hq (Int.le_refl _) (by omega) (by omega) h1

theorem known_c {H1 : Bool → (ι → O) → O} (h : T P (H1 true)) : T P (fun K => law33_known (fun b => H1 b K)) := h.eq fun K => rfl
theorem At2 {rows : List Ro} {m : List Ru} {pc : Int} {H1 : Ro → Bool → (ι → O) → O} (hm : m = mkV rows rows.length) (hl : rows.length ≤ 1000000) (h0 : 0 ≤ pc) (h1 : pc < (rows.length : Int)) (h : T P (H1 (rows.getD pc.toNat ((0 : Int), ((0 : Int), (false, ((0 : Int), ()))))) true)) : T P (fun K => ref13_At m pc (fun a b => H1 a b K)) := by
  refine ref13_At_c (by rw [hm]; exact mk_leP hl) (fun a b e => ?_)
  have h2 := mkV_at (rows := rows) rows.length pc.toNat (by omega)
  rw [Int.toNat_of_nonneg h0, ← hm, ← e] at h2
  cases h2
  exact h
theorem law33_TableFinds_L0_c {p : Prog} {plan : Plan} {mm : List Ru} {fns : List Fn_} (hp : few25 p) (hd : idD p.1) (hm : mm = mkV (rowsV p plan p.1.length) (rowsV p plan p.1.length).length) (hf : fns = fnsV p plan p.1.length) :
    ∀ {m : Nat} {pc : Int} {H1 : Bool → (ι → O) → O} {H2 : (ι → O) → O}, 0 ≤ pc → pc ≤ startV p plan p.1.length → startV p plan p.1.length < pc + m → T P H2 → T P (fun K => law33_TableFinds_L0 m pc plan p.1 p.2.1 p.2.2.1 mm fns (fun a => H1 a K) (H2 K)) := by
  have hl := hp.1
  have hb := startV_b (plan := plan) hp p.1.length
  have hr := rows_start (plan := plan) hp p.1.length
  have hrl := rows_leP (plan := plan) hp
  have hfl : fns.length ≤ 1000000 := by rw [hf]; exact fnsV_leP hp
  intro m
  induction m with
  | zero => intros; omega
  | succ m ih =>
    intro pc H1 H2 g0 g1 g2 h2
    rw [law33_TableFinds_L0]
    unfold law33_TableFinds_L0.body
    have ew : pc < startV p plan p.1.length → IntKind.wrap .i64 (pc + 1) = pc + 1 := fun _ => w64 (by omega) (by omega)
    refine ref29_Code_c (t1226 := (p.1, p.2.1, p.2.2.1, ())) hp (fun n e => ?_)
    subst e
    refine tcd (fun hlt => ?_) (fun _ => h2)
    have hlt : pc < startV p plan p.1.length := hlt
    refine At2 hm hrl g0 (by omega) ?_
    refine table_Sourcev1_c hfl (fun a b c ea eb ec => ?_)
    subst ea eb ec
    have again : T P (fun K => law33_TableFinds_L0 m (IntKind.wrap .i64 (pc + 1)) plan p.1 p.2.1 p.2.2.1 mm fns (fun a => H1 a K) (H2 K)) := by
      rw [ew hlt]
      exact ih (by omega) (by omega) (by omega) h2
    refine tcn (tcn (tct ?_))
    rcases finds hp p.1.length pc g0 hlt with ⟨s1, s2, s3, s4⟩ | ⟨q, i, s1, s2, s3, s4, s5⟩
    · rw [← hf] at s1
      rw [src_no (by omega)]
      exact tcf (tcn (tcf (tcn (tcne (fun h => absurd s2 h) (fun _ => tcn (tc (fun h => by rw [s3] at h; cases h) (fun _ => tcne (fun h => absurd s4 h) (fun _ => again))))))))
    · rw [← hf] at s2 s3
      have hi := (List.getElem?_eq_some_iff.1 s3).1
      have hget : fns.getD i ((0 : Int), ((0 : Int), ((0 : Int), ((0 : Int), ((0 : Int), ((0 : Int), ())))))) = fnV p plan q := by rw [List.getD_eq_getElem?_getD, s3]; rfl
      rw [src_yes (by omega), s2, Int.toNat_natCast, hget, s4]
      have hq0 := startV_b (plan := plan) hp q
      have hwk : IntKind.wrap .i64 (pc - (fnV p plan q).2.2.2.1) = pc - (fnV p plan q).2.2.2.1 := by
        refine w64 (by omega) ?_
        have : startV p plan (q + 1) - ((p.1.getD q ((0 : Int), ((0 : Int), ((⟨#[]⟩ : ByteArray), ((0 : Int), ([], ((0 : Int), (false, ((0 : Int), ((0 : Int), ([], ([], ([], ([], ())))))))))))))).2.2.2.2.2.2.2.2.2.2.1.length : Int) = (fnV p plan q).2.2.2.1 := rfl
        have h3 := startV_b (plan := plan) hp (q + 1)
        have h4 := few25_code hp q
        omega
      rw [hwk]
      refine tct (tcn (tcd (fun h => by have h : (i : Int) < 0 := h; omega) (fun _ => tcd (fun h => by have h : (i : Int) ≥ (fns.length : Int) := h; omega) (fun _ => tcn (tct ?_)))))
      refine tna (by show (0 : Int) ≤ (i : Int); omega) (by show (i : Int) < _; omega) (tna (by show (0 : Int) ≤ (i : Int); omega) (by show (i : Int) < _; omega) ?_)
      dsimp only
      refine ref24_Fun_c (p := p) (q := q) hp hd s1 ?_
      have hw1 : IntKind.wrap .i64 ((i : Int) + 1) = (i : Int) + 1 := w64 (by omega) (by omega)
      rw [Int.toNat_natCast, hw1]
      refine tna (by omega) (by omega) (tcn (tcne (fun h => absurd rfl h) (fun _ => ?_)))
      refine ref16_Frame_c (fun n en => ?_)
      subst en
      refine tcn (tcne (fun h => absurd rfl h) (fun _ => ?_))
      refine ref18_In_c (fun n en => ?_)
      subst en
      refine tcn (tcn (tc (fun _ => ?_) (fun h => (bself rfl h).elim)))
      refine ref16_Line_c (few25_lines hp q) (fun n en => ?_)
      subst en
      exact tcne (fun h => absurd rfl h) (fun _ => again)

theorem law33_TableFinds_c {l : List Obj} {plan : Plan} {H1 : Bool → (ι → O) → O} (g0 : okLs l) (h1 : T P (H1 true)) : T P (fun K => law33_TableFinds l plan (fun a => H1 a K)) := by
  have := rb
  unfold law33_TableFinds law33_TableFinds.body
  refine law32_Few_c g0 (fun p b e1 e2 => ?_)
  refine tcn (tc (fun hb => ?_) (fun _ => known_c h1))
  have hp := e1 hb
  have hd := e2 hb
  refine table_Make_c (t1138 := (p.1, p.2.1, p.2.2.1, ())) hp (fun mm em => ?_)
  refine ref29_Fns_c (t1197 := (p.1, p.2.1, p.2.2.1, ())) hp (fun fns ef => ?_)
  have hb2 := startV_b (plan := plan) hp p.1.length
  have hl := hp.1
  exact law33_TableFinds_L0_c (p := p) (H1 := H1) (H2 := fun K => law33_known (fun b => H1 b K)) hp hd em ef (Int.le_refl _) (by omega) (by omega) (known_c h1)

theorem okLs_of {l : List Obj} (h : okD Ty25 l) : okLs l := by
  have h' := okD_sl.1 h
  refine ⟨h'.1, fun o ho => ?_⟩
  have a := okDs_cons.1 (okD_st.1 (h'.2 o ho))
  have b := okDs_cons.1 a.2
  have c := okDs_cons.1 b.2
  exact ⟨(okD_sl.1 a.1).1, (okD_sl.1 b.1).1, (okD_sl.1 c.1).1⟩
theorem holds (l : List Obj) (plan : Plan) (h0 : okD Ty25 l) (h1 : okD Ty6 plan) : law33_TableFinds l plan (fun y => some y) = some true :=
  (law33_TableFinds_c (ι := Bool) (P := fun b => b = true) (H1 := fun a K => K a) (okLs_of h0) (T.leaf rfl)).use (K := fun y => some y) (fun i hi => congrArg some hi)

end Go.Proofs.Ythjiokfjckcomaa.tableFinds
