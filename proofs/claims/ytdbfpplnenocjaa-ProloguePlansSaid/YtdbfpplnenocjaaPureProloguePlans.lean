/- What the plain functions answer: the law, without program or memory. -/
import Derived.Test.YtdbfpplnenocjaaPureProloguePlans1
namespace Go.Proofs.Ytdbfpplnenocjaa.prologuePlans
open Go.AX Go.Proofs.Ytdbfpplnenocjaa.g
set_option linter.unusedVariables false
set_option linter.unusedSimpArgs false
attribute [local congr] cond_congr
variable {ι : Type} {P : ι → Prop}
attribute [local irreducible] ROUNDS ref19_Few_L0 ref16_Few ref19_Few_L2 ref15_Few ref19_Few_L4 ref19_Few ref24_Few_L0 ref24_Few ref04_may ref04_Check_L0 ref04_Check ref05_Is ref05_Class ref01_Digits_L0 ref01_Digits ref05_Text ref19_symbol_L0 ref19_symbol_L2 ref19_symbol ref19_Check_L0 ref19_Items ref19_defines ref19_Definer_L0 ref19_Definer ref15_Check_L0 ref15_Check_L2 ref15_Check ref05_Params ref16_slots_L0 ref16_slots ref07_names ref07_Name ref07_Ends ref14_Next ref14_Check_L0_L2 ref14_Check_L0 ref14_Check ref08_Operand ref08_Check_L0 ref07_Shape ref08_Check_L2 ref08_Check ref07_Own ref16_code_L0 ref16_code ref16_lines_L0 ref16_lines ref16_Check_L0 ref16_Check ref07_Need ref17_has_L0 ref17_has ref17_Sym_L0 ref17_Sym ref17_fits ref17_refers ref05_Later ref17_slot ref05_Answers ref17_called_L0 ref17_called ref17_perhaps ref17_operand ref17_Instr_L0 ref17_Instr ref17_Check_L0 ref17_Check ref18_Marks_L0 ref18_Marks ref14_After_L0 ref14_Graph_L0 ref14_Graph ref10_Reach_L0 ref10_Reach_L2_L4_L6 ref10_Reach_L2_L4 ref10_Reach_L2 ref10_Reach ref14_After ref18_In ref18_Check_L0 ref18_Check ref19_item ref19_Check_L2 ref19_Check ref23_global ref23_Find_L0_L2 ref23_Find_L0 ref23_Find ref23_Twice_L0_L2 ref23_Twice_L0 ref23_Twice ref23_Bound ref23_Check_L0_L2 ref23_Check_L0 ref23_Check ref24_name ref24_number_L0 ref24_number ref24_bound_L0 ref24_bound ref15_Marks_L0_L2 ref15_Marks_L0 ref15_Marks ref15_Refs_L0 ref15_Refs ref24_program_L0_L2_L4 ref24_program_L0_L2 ref24_program_L0_L6 ref24_program_L0 ref24_program ref24_Bind_L0 ref24_Bind ref25_Few_L0 ref25_Few_L2 ref25_Few prologue_Full_L0 prologue_Full ref28_Full_L0 ref28_Full ref28_Same_L0 ref28_Same_L2 ref28_Same num_Near fun_Frame prologue_Least prologue_has prologue_Lean_L0 prologue_Lean ref01_Near ref16_Frame ref28_Least ref28_Lean_L0 ref28_Lean prologue_Size ref28_Kept ref28_Check ref28_Size
theorem ref24_program_L0_L2_c : ∀ {m : Nat} {ts1223 : List Obj} {n1224 : Int} {n1225 : Int} {n1226 : Int} {n1227 : Int} {ts1228 : List Fun_} {ts1229 : List Dat_} {l1230 : List Sym} {l1231 : List Func} {l1232 : List Data} {B : Int} {H1 : (List Obj) → Int → Int → Int → (List Fun_) → (List Dat_) → (List Sym) → (List Func) → (List Data) → (ι → O) → O} (g0 : szL ts1223) (g1 : 0 ≤ n1225) (g2 : n1225 ≤ (((List.length l1231) : Nat) : Int)) (g3 : (((List.length l1231) : Nat) : Int) < n1225 + m) (g4 : szO (l1230, (l1231, (l1232, ())))) (g5 : objOk (l1230, (l1231, (l1232, ())))) (g6 : ∀ j : Int, 0 ≤ j → j < (l1230.length : Int) → BoundOk ts1223 n1224 j) (g7 : (ts1228.length : Int) ≤ B + n1225) (g8 : 0 ≤ B ∧ B ≤ 1000000000)
    (h1 : ∀ (a0 : List Obj) (a1 : Int) (a2 : Int) (a3 : Int) (a4 : List Fun_) (a5 : List Dat_) (a6 : List Sym) (a7 : List Func) (a8 : List Data), ts1223 = a0 → n1224 = a1 → n1226 = a2 → n1227 = a3 → ts1229 = a5 → l1230 = a6 → l1231 = a7 → l1232 = a8 → ((a4.length : Int) ≤ B + 1000) → T P (H1 a0 a1 a2 a3 a4 a5 a6 a7 a8)),
    T P (fun K => ref24_program_L0_L2 m ts1223 n1224 n1225 n1226 n1227 ts1228 ts1229 l1230 l1231 l1232 (fun a0 a1 a2 a3 a4 a5 a6 a7 a8 => H1 a0 a1 a2 a3 a4 a5 a6 a7 a8 K)) := by
  intro m
  induction m with
  | zero => intros; omega
  | succ m ih =>
    intro ts1223 n1224 n1225 n1226 n1227 ts1228 ts1229 l1230 l1231 l1232 B H1 g0 g1 g2 g3 g4 g5 g6 g7 g8 h1
    rw [ref24_program_L0_L2]
    unfold ref24_program_L0_L2.body
    have z0 := szL_len g0
    have z4 := g4
    obtain ⟨_, _, _, _, _, _⟩ := z4
    have := wr64 ((n1225 + (1 : Int)))
    have := rb
    have hz : l1231.length ≤ 1000 := g4.2.1
    have hzf : szF (List.getD l1231 (Int.toNat n1225) ((0 : Int), ([], ((0 : Int), (false, ((0 : Int), ((0 : Int), ([], ([], ([], ())))))))))) := szO_f g4
    have hz2 := hzf
    obtain ⟨_, _, _, _⟩ := hz2
    have hit : n1225 < (l1231.length : Int) → itemOk (l1230, (l1231, (l1232, ()))) n1225 := fun h => g5 n1225 (by omega) (by show _ < (List.length l1231 : Int) + (List.length l1232 : Int); omega)
    repeat' first
      | (intro q; try subst q)
      | ((with_reducible refine h1 _ _ _ _ _ _ _ _ _ ?_ ?_ ?_ ?_ ?_ ?_ ?_ ?_ ?_) <;> try (first | exact (hit (by omega)).2.1 (by assumption) | exact (hit (by omega)).1 | exact inN_nil | (intro j hj1 hj2 hj3; exact g6 _ hj3 ((by assumption : inN _ _) j hj1 hj2 hj3)) | (simp only [List.length_append, List.length_cons, List.length_nil] <;> omega) | with_reducible rfl | assumption | omega | solve_by_elim [szL_get, szO_f, szO_d, szO_s]))
      | ((with_reducible refine tna ?_ ?_ ?_); omega; omega)
      | ((with_reducible refine tnb ?_ ?_); focus (first | omega | (first | exact (hit (by omega)).2.1 (by assumption) | exact (hit (by omega)).1 | exact inN_nil | (intro j hj1 hj2 hj3; exact g6 _ hj3 ((by assumption : inN _ _) j hj1 hj2 hj3)) | (simp only [List.length_append, List.length_cons, List.length_nil] <;> omega) | with_reducible rfl | assumption | omega | solve_by_elim [szL_get, szO_f, szO_d, szO_s])))
      | ((with_reducible refine tn ?_ ?_); assumption)
      | with_reducible refine tct ?_
      | with_reducible refine tcf ?_
      | with_reducible refine tcn ?_
      | with_reducible refine tcd ?_ ?_
      | with_reducible refine tce ?_ ?_
      | with_reducible refine tcne ?_ ?_
      | with_reducible refine tc ?_ ?_
      | ((with_reducible refine ih ?_ ?_ ?_ ?_ ?_ ?_ ?_ ?_ ?_ h1) <;> try (first | exact (hit (by omega)).2.1 (by assumption) | exact (hit (by omega)).1 | exact inN_nil | (intro j hj1 hj2 hj3; exact g6 _ hj3 ((by assumption : inN _ _) j hj1 hj2 hj3)) | (simp only [List.length_append, List.length_cons, List.length_nil] <;> omega) | with_reducible rfl | assumption | omega | solve_by_elim [szL_get, szO_f, szO_d, szO_s]))
      | ((with_reducible refine ref24_name_c ?_ ?_) <;> try (first | exact (hit (by omega)).2.1 (by assumption) | exact (hit (by omega)).1 | exact inN_nil | (intro j hj1 hj2 hj3; exact g6 _ hj3 ((by assumption : inN _ _) j hj1 hj2 hj3)) | (simp only [List.length_append, List.length_cons, List.length_nil] <;> omega) | with_reducible rfl | assumption | omega | solve_by_elim [szL_get, szO_f, szO_d, szO_s]))
      | ((with_reducible refine ref24_bound_c ?_ ?_ ?_ ?_) <;> try (first | exact (hit (by omega)).2.1 (by assumption) | exact (hit (by omega)).1 | exact inN_nil | (intro j hj1 hj2 hj3; exact g6 _ hj3 ((by assumption : inN _ _) j hj1 hj2 hj3)) | (simp only [List.length_append, List.length_cons, List.length_nil] <;> omega) | with_reducible rfl | assumption | omega | solve_by_elim [szL_get, szO_f, szO_d, szO_s]))
      | ((with_reducible refine ref24_program_L0_L2_L4_c ?_ ?_ ?_ ?_ ?_ ?_ ?_ ?_ ?_ ?_ ?_) <;> try (first | exact (hit (by omega)).2.1 (by assumption) | exact (hit (by omega)).1 | exact inN_nil | (intro j hj1 hj2 hj3; exact g6 _ hj3 ((by assumption : inN _ _) j hj1 hj2 hj3)) | (simp only [List.length_append, List.length_cons, List.length_nil] <;> omega) | with_reducible rfl | assumption | omega | solve_by_elim [szL_get, szO_f, szO_d, szO_s]))

theorem ref24_program_L0_L6_c : ∀ {m : Nat} {ts1268 : List Obj} {n1269 : Int} {n1270 : Int} {n1271 : Int} {n1272 : Int} {ts1273 : List Fun_} {ts1274 : List Dat_} {l1275 : List Sym} {l1276 : List Func} {l1277 : List Data} {B : Int} {H1 : (List Obj) → Int → Int → Int → (List Fun_) → (List Dat_) → (ι → O) → O} (g0 : szL ts1268) (g1 : 0 ≤ n1270) (g2 : n1270 ≤ (((List.length l1277) : Nat) : Int)) (g3 : (((List.length l1277) : Nat) : Int) < n1270 + m) (g4 : szO (l1275, (l1276, (l1277, ())))) (g5 : objOk (l1275, (l1276, (l1277, ())))) (g6 : ∀ j : Int, 0 ≤ j → j < (l1275.length : Int) → BoundOk ts1268 n1269 j) (g7 : (ts1274.length : Int) ≤ B + n1270) (g8 : 0 ≤ B ∧ B ≤ 1000000000)
    (h1 : ∀ (a0 : List Obj) (a1 : Int) (a2 : Int) (a3 : Int) (a4 : List Fun_) (a5 : List Dat_), ts1268 = a0 → n1269 = a1 → n1271 = a2 → n1272 = a3 → ts1273 = a4 → ((a5.length : Int) ≤ B + 1000) → T P (H1 a0 a1 a2 a3 a4 a5)),
    T P (fun K => ref24_program_L0_L6 m ts1268 n1269 n1270 n1271 n1272 ts1273 ts1274 l1275 l1276 l1277 (fun a0 a1 a2 a3 a4 a5 => H1 a0 a1 a2 a3 a4 a5 K)) := by
  intro m
  induction m with
  | zero => intros; omega
  | succ m ih =>
    intro ts1268 n1269 n1270 n1271 n1272 ts1273 ts1274 l1275 l1276 l1277 B H1 g0 g1 g2 g3 g4 g5 g6 g7 g8 h1
    rw [ref24_program_L0_L6]
    unfold ref24_program_L0_L6.body
    have z0 := szL_len g0
    have z4 := g4
    obtain ⟨_, _, _, _, _, _⟩ := z4
    have := wr64 (((((List.length l1276) : Nat) : Int) + n1270))
    have := wr64 ((n1270 + (1 : Int)))
    have hz : l1277.length ≤ 1000 := g4.2.2.1
    have hz8 : l1276.length ≤ 1000 := g4.2.1
    have hzd : szD (List.getD l1277 (Int.toNat n1270) ((0 : Int), ([], ([], ())))) := szO_d g4
    have hw := wr64 (((l1276.length : Nat) : Int) + n1270)
    have hit : n1270 < (l1277.length : Int) → itemOk (l1275, (l1276, (l1277, ()))) ((l1276.length : Int) + n1270) := fun h => g5 _ (by omega) (by show _ < (List.length l1276 : Int) + (List.length l1277 : Int); omega)
    have hdat : n1270 < (l1277.length : Int) → datOk (List.getD l1277 (Int.toNat n1270) ((0 : Int), ([], ([], ())))) l1275.length := fun h => dat_of (o := (l1275, (l1276, (l1277, ())))) (hit h) (by omega)
    repeat' first
      | (intro q; try subst q)
      | ((with_reducible refine h1 _ _ _ _ _ _ ?_ ?_ ?_ ?_ ?_ ?_) <;> try (first | exact hdat (by omega) | (rw [hw ⟨by omega, by omega⟩]; exact (hit (by omega)).1) | (intro j hj1 hj2 hj3; exact g6 _ hj3 ((by assumption : inN _ _) j hj1 hj2 hj3)) | (simp only [List.length_append, List.length_cons, List.length_nil] <;> omega) | with_reducible rfl | assumption | omega | solve_by_elim [szL_get, szO_f, szO_d, szO_s]))
      | ((with_reducible refine tna ?_ ?_ ?_); omega; omega)
      | ((with_reducible refine tnb ?_ ?_); focus (first | omega | (first | exact hdat (by omega) | (rw [hw ⟨by omega, by omega⟩]; exact (hit (by omega)).1) | (intro j hj1 hj2 hj3; exact g6 _ hj3 ((by assumption : inN _ _) j hj1 hj2 hj3)) | (simp only [List.length_append, List.length_cons, List.length_nil] <;> omega) | with_reducible rfl | assumption | omega | solve_by_elim [szL_get, szO_f, szO_d, szO_s])))
      | ((with_reducible refine tn ?_ ?_); assumption)
      | with_reducible refine tct ?_
      | with_reducible refine tcf ?_
      | with_reducible refine tcn ?_
      | with_reducible refine tcd ?_ ?_
      | with_reducible refine tce ?_ ?_
      | with_reducible refine tcne ?_ ?_
      | with_reducible refine tc ?_ ?_
      | ((with_reducible refine ih ?_ ?_ ?_ ?_ ?_ ?_ ?_ ?_ ?_ h1) <;> try (first | exact hdat (by omega) | (rw [hw ⟨by omega, by omega⟩]; exact (hit (by omega)).1) | (intro j hj1 hj2 hj3; exact g6 _ hj3 ((by assumption : inN _ _) j hj1 hj2 hj3)) | (simp only [List.length_append, List.length_cons, List.length_nil] <;> omega) | with_reducible rfl | assumption | omega | solve_by_elim [szL_get, szO_f, szO_d, szO_s]))
      | ((with_reducible refine ref24_name_c ?_ ?_) <;> try (first | exact hdat (by omega) | (rw [hw ⟨by omega, by omega⟩]; exact (hit (by omega)).1) | (intro j hj1 hj2 hj3; exact g6 _ hj3 ((by assumption : inN _ _) j hj1 hj2 hj3)) | (simp only [List.length_append, List.length_cons, List.length_nil] <;> omega) | with_reducible rfl | assumption | omega | solve_by_elim [szL_get, szO_f, szO_d, szO_s]))
      | ((with_reducible refine ref15_Refs_c (N := l1275.length) ?_ ?_ ?_) <;> try (first | exact hdat (by omega) | (rw [hw ⟨by omega, by omega⟩]; exact (hit (by omega)).1) | (intro j hj1 hj2 hj3; exact g6 _ hj3 ((by assumption : inN _ _) j hj1 hj2 hj3)) | (simp only [List.length_append, List.length_cons, List.length_nil] <;> omega) | with_reducible rfl | assumption | omega | solve_by_elim [szL_get, szO_f, szO_d, szO_s]))
      | ((with_reducible refine ref24_bound_c ?_ ?_ ?_ ?_) <;> try (first | exact hdat (by omega) | (rw [hw ⟨by omega, by omega⟩]; exact (hit (by omega)).1) | (intro j hj1 hj2 hj3; exact g6 _ hj3 ((by assumption : inN _ _) j hj1 hj2 hj3)) | (simp only [List.length_append, List.length_cons, List.length_nil] <;> omega) | with_reducible rfl | assumption | omega | solve_by_elim [szL_get, szO_f, szO_d, szO_s]))

theorem ref24_program_L0_c : ∀ {m : Nat} {ts1217 : List Obj} {n1218 : Int} {n1219 : Int} {n1220 : Int} {ts1221 : List Fun_} {ts1222 : List Dat_} {H1 : Int → Int → (List Fun_) → (List Dat_) → (ι → O) → O} (g0 : szL ts1217) (g1 : 0 ≤ n1218) (g2 : n1218 ≤ (((List.length ts1217) : Nat) : Int)) (g3 : (((List.length ts1217) : Nat) : Int) < n1218 + m) (g4 : ∀ i : Int, 0 ≤ i → i < (ts1217.length : Int) → objOk (List.getD ts1217 (Int.toNat i) ([], ([], ([], ()))))) (g5 : allOk ts1217) (g6 : (ts1221.length : Int) ≤ 1000 * n1218) (g7 : (ts1222.length : Int) ≤ 1000 * n1218)
    (h1 : ∀ (a0 : Int) (a1 : Int) (a2 : List Fun_) (a3 : List Dat_), n1219 = a0 → n1220 = a1 → ((a2.length : Int) ≤ 1000 * (ts1217.length : Int)) → ((a3.length : Int) ≤ 1000 * (ts1217.length : Int)) → T P (H1 a0 a1 a2 a3)),
    T P (fun K => ref24_program_L0 m ts1217 n1218 n1219 n1220 ts1221 ts1222 (fun a0 a1 a2 a3 => H1 a0 a1 a2 a3 K)) := by
  intro m
  induction m with
  | zero => intros; omega
  | succ m ih =>
    intro ts1217 n1218 n1219 n1220 ts1221 ts1222 H1 g0 g1 g2 g3 g4 g5 g6 g7 h1
    rw [ref24_program_L0]
    unfold ref24_program_L0.body
    have z0_n1218 := szL_get (i := Int.toNat n1218) g0
    obtain ⟨_, _, _, _, _, _⟩ := z0_n1218
    have z0 := szL_len g0
    have := wr64 ((n1218 + (1 : Int)))
    have := rb
    have hz := szL_get (i := Int.toNat n1218) g0
    obtain ⟨_, _, _, _, _, _⟩ := hz
    repeat' first
      | (intro q; try subst q)
      | ((with_reducible refine h1 _ _ _ _ ?_ ?_ ?_ ?_) <;> try (first | exact szL_get (by assumption) | exact g4 _ (by omega) (by omega) | exact g5 _ (by omega) (by omega) | with_reducible rfl | assumption | omega | solve_by_elim [szL_get, szO_f, szO_d, szO_s]))
      | ((with_reducible refine tna ?_ ?_ ?_); omega; omega)
      | ((with_reducible refine tnb ?_ ?_); focus (first | omega | (first | exact szL_get (by assumption) | exact g4 _ (by omega) (by omega) | exact g5 _ (by omega) (by omega) | with_reducible rfl | assumption | omega | solve_by_elim [szL_get, szO_f, szO_d, szO_s])))
      | ((with_reducible refine tn ?_ ?_); assumption)
      | with_reducible refine tct ?_
      | with_reducible refine tcf ?_
      | with_reducible refine tcn ?_
      | with_reducible refine tcd ?_ ?_
      | with_reducible refine tce ?_ ?_
      | with_reducible refine tcne ?_ ?_
      | with_reducible refine tc ?_ ?_
      | ((with_reducible refine ih ?_ ?_ ?_ ?_ ?_ ?_ ?_ ?_ h1) <;> try (first | exact szL_get (by assumption) | exact g4 _ (by omega) (by omega) | exact g5 _ (by omega) (by omega) | with_reducible rfl | assumption | omega | solve_by_elim [szL_get, szO_f, szO_d, szO_s]))
      | ((with_reducible refine ref24_program_L0_L2_c (B := 1000 * n1218) ?_ ?_ ?_ ?_ ?_ ?_ ?_ ?_ ?_ ?_) <;> try (first | exact szL_get (by assumption) | exact g4 _ (by omega) (by omega) | exact g5 _ (by omega) (by omega) | with_reducible rfl | assumption | omega | solve_by_elim [szL_get, szO_f, szO_d, szO_s]))
      | ((with_reducible refine ref24_program_L0_L6_c (B := 1000 * n1218) ?_ ?_ ?_ ?_ ?_ ?_ ?_ ?_ ?_ ?_) <;> try (first | exact szL_get (by assumption) | exact g4 _ (by omega) (by omega) | exact g5 _ (by omega) (by omega) | with_reducible rfl | assumption | omega | solve_by_elim [szL_get, szO_f, szO_d, szO_s]))

theorem ref24_program_c {ts1216 : List Obj} {H1 : Int → (List Fun_) → (List Dat_) → (ι → O) → O} (g0 : szL ts1216) (g1 : ∀ i : Int, 0 ≤ i → i < (ts1216.length : Int) → objOk (List.getD ts1216 (Int.toNat i) ([], ([], ([], ()))))) (g2 : allOk ts1216)
    (h1 : ∀ (a0 : Int) (a1 : List Fun_) (a2 : List Dat_), (a1.length ≤ 1000000) → (a2.length ≤ 1000000) → T P (H1 a0 a1 a2)) :
    T P (fun K => ref24_program ts1216 (fun a0 a1 a2 => H1 a0 a1 a2 K)) := by
  unfold ref24_program ref24_program.body
  have z0 := szL_len g0
  have := rb
  repeat' first
    | (intro q; try subst q)
    | ((with_reducible refine h1 _ _ _ ?_ ?_) <;> try (first | (simp only [List.length_nil] <;> omega) | with_reducible rfl | assumption | omega | solve_by_elim [szL_get, szO_f, szO_d, szO_s]))
    | ((with_reducible refine tna ?_ ?_ ?_); omega; omega)
    | ((with_reducible refine tnb ?_ ?_); focus (first | omega | (first | (simp only [List.length_nil] <;> omega) | with_reducible rfl | assumption | omega | solve_by_elim [szL_get, szO_f, szO_d, szO_s])))
    | ((with_reducible refine tn ?_ ?_); assumption)
    | with_reducible refine tct ?_
    | with_reducible refine tcf ?_
    | with_reducible refine tcn ?_
    | with_reducible refine tcd ?_ ?_
    | with_reducible refine tce ?_ ?_
    | with_reducible refine tcne ?_ ?_
    | with_reducible refine tc ?_ ?_
    | ((with_reducible refine ref24_program_L0_c ?_ ?_ ?_ ?_ ?_ ?_ ?_ ?_ ?_) <;> try (first | (simp only [List.length_nil] <;> omega) | with_reducible rfl | assumption | omega | solve_by_elim [szL_get, szO_f, szO_d, szO_s]))

theorem ref24_Bind_L0_c : ∀ {m : Nat} {ts1304 : List Obj} {s1305 : ByteArray} {n1306 : Int} {n1307 : Int} {t1308 : Int × Int × Int × Unit} {H1 : Prog → (Int × Int × Int × Unit) → (ι → O) → O} {H2 : (List Obj) → ByteArray → Int → (Int × Int × Int × Unit) → (ι → O) → O} (g0 : szL ts1304) (g1 : s1305.size ≤ 100000) (g2 : 0 ≤ n1306) (g3 : n1306 ≤ (((List.length ts1304) : Nat) : Int)) (g4 : (((List.length ts1304) : Nat) : Int) < n1306 + m) (g5 : ∀ i : Int, 0 ≤ i → i < n1306 → objOk (List.getD ts1304 (Int.toNat i) ([], ([], ([], ())))))
    (h1 : ∀ (a0 : Prog) (a1 : Int × Int × Int × Unit), (a0.1.length ≤ 1000000) → (a0.2.1.length ≤ 1000000) → T P (H1 a0 a1))
    (h2 : ∀ (a0 : List Obj) (a1 : ByteArray) (a2 : Int) (a3 : Int × Int × Int × Unit), ts1304 = a0 → s1305 = a1 → n1307 = a2 → t1308 = a3 → (∀ i : Int, 0 ≤ i → i < (ts1304.length : Int) → objOk (List.getD ts1304 (Int.toNat i) ([], ([], ([], ()))))) → T P (H2 a0 a1 a2 a3)),
    T P (fun K => ref24_Bind_L0 m ts1304 s1305 n1306 n1307 t1308 (fun a0 a1 => H1 a0 a1 K) (fun a0 a1 a2 a3 => H2 a0 a1 a2 a3 K)) := by
  intro m
  induction m with
  | zero => intros; omega
  | succ m ih =>
    intro ts1304 s1305 n1306 n1307 t1308 H1 H2 g0 g1 g2 g3 g4 g5 h1 h2
    rw [ref24_Bind_L0]
    unfold ref24_Bind_L0.body
    have z0_n1306 := szL_get (i := Int.toNat n1306) g0
    obtain ⟨_, _, _, _, _, _⟩ := z0_n1306
    have z0 := szL_len g0
    have := wr64 ((n1306 + (1 : Int)))
    repeat' first
      | (intro q; try subst q)
      | ((with_reducible refine h1 _ _ ?_ ?_) <;> try (first | exact Nat.zero_le _ | exact stepJ (by assumption) (by solve_by_elim) (by omega) | (intro j hj1 hj2; exact g5 j hj1 (by omega)) | with_reducible rfl | assumption | omega | solve_by_elim [szL_get, szO_f, szO_d, szO_s]))
      | ((with_reducible refine h2 _ _ _ _ ?_ ?_ ?_ ?_ ?_) <;> try (first | exact Nat.zero_le _ | exact stepJ (by assumption) (by solve_by_elim) (by omega) | (intro j hj1 hj2; exact g5 j hj1 (by omega)) | with_reducible rfl | assumption | omega | solve_by_elim [szL_get, szO_f, szO_d, szO_s]))
      | ((with_reducible refine tna ?_ ?_ ?_); omega; omega)
      | ((with_reducible refine tnb ?_ ?_); focus (first | omega | (first | exact Nat.zero_le _ | exact stepJ (by assumption) (by solve_by_elim) (by omega) | (intro j hj1 hj2; exact g5 j hj1 (by omega)) | with_reducible rfl | assumption | omega | solve_by_elim [szL_get, szO_f, szO_d, szO_s])))
      | ((with_reducible refine tn ?_ ?_); assumption)
      | with_reducible refine tct ?_
      | with_reducible refine tcf ?_
      | with_reducible refine tcn ?_
      | with_reducible refine tcd ?_ ?_
      | with_reducible refine tce ?_ ?_
      | with_reducible refine tcne ?_ ?_
      | with_reducible refine tc ?_ ?_
      | ((with_reducible refine ih ?_ ?_ ?_ ?_ ?_ ?_ h1 h2) <;> try (first | exact Nat.zero_le _ | exact stepJ (by assumption) (by solve_by_elim) (by omega) | (intro j hj1 hj2; exact g5 j hj1 (by omega)) | with_reducible rfl | assumption | omega | solve_by_elim [szL_get, szO_f, szO_d, szO_s]))
      | ((with_reducible refine ref19_Check_c ?_ ?_) <;> try (first | exact Nat.zero_le _ | exact stepJ (by assumption) (by solve_by_elim) (by omega) | (intro j hj1 hj2; exact g5 j hj1 (by omega)) | with_reducible rfl | assumption | omega | solve_by_elim [szL_get, szO_f, szO_d, szO_s]))

theorem ref24_Bind_c {ts : List Obj} {s : ByteArray} {H1 : (List Fun_ × List Dat_ × Int × Unit) → (Int × Int × Int × Unit) → (ι → O) → O} (hL : szL ts) (hs : s.size ≤ 100000) (h1 : ∀ p e, p.1.length ≤ 1000000 → p.2.1.length ≤ 1000000 → T P (H1 p e)) : T P (fun K => ref24_Bind ts s (fun a b => H1 a b K)) := by
  have := rb
  have := szL_len hL
  unfold ref24_Bind ref24_Bind.body
  refine tcn (tce (fun _ => h1 _ _ (by decide) (by decide)) (fun _ => ?_))
  refine tcd (fun _ => h1 _ _ (by decide) (by decide)) (fun _ => ?_)
  refine ref24_Bind_L0_c hL hs (by omega) (by omega) (by omega) (fun i h1 h2 => by omega) (fun a b e1 e2 => h1 a b e1 e2) (fun a0 a1 a2 a3 e0 e1 e2 e3 hob => ?_)
  subst e0 e1 e2 e3
  refine ref23_Check_c hL (fun t ht => tcne (fun _ => h1 _ _ (by decide) (by decide)) (fun h0 => ?_))
  have hall := ht h0
  refine ref23_Find_c hL hs (fun a b c hv => tcn (tcn (tc (fun hc => ?_) (fun _ => h1 _ _ (by decide) (by decide)))))
  obtain ⟨v1, v2, v3, v4⟩ := hv hc
  refine tna (by omega) (by omega) (tna (by omega) (by omega) (tcn (tcne (fun _ => h1 _ _ (by decide) (by decide)) (fun _ => ?_))))
  refine tna (by omega) (by omega) (tna (by omega) (by omega) (tcd (fun _ => h1 _ _ (by decide) (by decide)) (fun _ => ?_)))
  exact ref24_program_c hL hob hall (fun a b c _ _ => ref24_number_c hL (hall _ v1 v2 _ v3 v4) (fun n => h1 _ _ ‹_› ‹_›))

theorem ref25_Few_L0_c : ∀ {m : Nat} {n1328 : Int} {t1329 : Prog} {H1 : Bool → (ι → O) → O} {H2 : Prog → (ι → O) → O} (g0 : 0 ≤ n1328) (g1 : n1328 ≤ (((List.length t1329.1) : Nat) : Int)) (g2 : (((List.length t1329.1) : Nat) : Int) < n1328 + m) (g3 : t1329.1.length ≤ 1000000) (g4 : ∀ j : Int, 0 ≤ j → j < n1328 → ((List.getD t1329.1 (Int.toNat j) ((0 : Int), ((0 : Int), ((⟨#[]⟩ : ByteArray), ((0 : Int), ([], ((0 : Int), (false, ((0 : Int), ((0 : Int), ([], ([], ([], ([], ())))))))))))))).2.2.2.2.2.2.2.2.2.2.1.length ≤ 80 ∧ (List.getD t1329.1 (Int.toNat j) ((0 : Int), ((0 : Int), ((⟨#[]⟩ : ByteArray), ((0 : Int), ([], ((0 : Int), (false, ((0 : Int), ((0 : Int), ([], ([], ([], ([], ())))))))))))))).2.2.2.2.2.2.2.2.2.2.2.2.1.length ≤ 80 ∧ (List.getD t1329.1 (Int.toNat j) ((0 : Int), ((0 : Int), ((⟨#[]⟩ : ByteArray), ((0 : Int), ([], ((0 : Int), (false, ((0 : Int), ((0 : Int), ([], ([], ([], ([], ())))))))))))))).2.2.2.2.1.length ≤ 80 ∧ (List.getD t1329.1 (Int.toNat j) ((0 : Int), ((0 : Int), ((⟨#[]⟩ : ByteArray), ((0 : Int), ([], ((0 : Int), (false, ((0 : Int), ((0 : Int), ([], ([], ([], ([], ())))))))))))))).2.2.2.2.2.2.2.2.2.2.2.1.length ≤ 80 ∧ (List.getD t1329.1 (Int.toNat j) ((0 : Int), ((0 : Int), ((⟨#[]⟩ : ByteArray), ((0 : Int), ([], ((0 : Int), (false, ((0 : Int), ((0 : Int), ([], ([], ([], ([], ())))))))))))))).2.2.2.2.2.2.2.2.2.1.length ≤ 80))
    (h1 : ∀ (a0 : Bool), (a0 = false) → T P (H1 a0))
    (h2 : ∀ (a0 : Prog), t1329 = a0 → (∀ j : Int, 0 ≤ j → j < (t1329.1.length : Int) → ((List.getD t1329.1 (Int.toNat j) ((0 : Int), ((0 : Int), ((⟨#[]⟩ : ByteArray), ((0 : Int), ([], ((0 : Int), (false, ((0 : Int), ((0 : Int), ([], ([], ([], ([], ())))))))))))))).2.2.2.2.2.2.2.2.2.2.1.length ≤ 80 ∧ (List.getD t1329.1 (Int.toNat j) ((0 : Int), ((0 : Int), ((⟨#[]⟩ : ByteArray), ((0 : Int), ([], ((0 : Int), (false, ((0 : Int), ((0 : Int), ([], ([], ([], ([], ())))))))))))))).2.2.2.2.2.2.2.2.2.2.2.2.1.length ≤ 80 ∧ (List.getD t1329.1 (Int.toNat j) ((0 : Int), ((0 : Int), ((⟨#[]⟩ : ByteArray), ((0 : Int), ([], ((0 : Int), (false, ((0 : Int), ((0 : Int), ([], ([], ([], ([], ())))))))))))))).2.2.2.2.1.length ≤ 80 ∧ (List.getD t1329.1 (Int.toNat j) ((0 : Int), ((0 : Int), ((⟨#[]⟩ : ByteArray), ((0 : Int), ([], ((0 : Int), (false, ((0 : Int), ((0 : Int), ([], ([], ([], ([], ())))))))))))))).2.2.2.2.2.2.2.2.2.2.2.1.length ≤ 80 ∧ (List.getD t1329.1 (Int.toNat j) ((0 : Int), ((0 : Int), ((⟨#[]⟩ : ByteArray), ((0 : Int), ([], ((0 : Int), (false, ((0 : Int), ((0 : Int), ([], ([], ([], ([], ())))))))))))))).2.2.2.2.2.2.2.2.2.1.length ≤ 80)) → T P (H2 a0)),
    T P (fun K => ref25_Few_L0 m n1328 t1329 (fun a0 => H1 a0 K) (fun a0 => H2 a0 K)) := by
  intro m
  induction m with
  | zero => intros; omega
  | succ m ih =>
    intro n1328 t1329 H1 H2 g0 g1 g2 g3 g4 h1 h2
    rw [ref25_Few_L0]
    unfold ref25_Few_L0.body
    have := wr64 ((n1328 + (1 : Int)))
    repeat' first
      | (intro q; try subst q)
      | ((with_reducible refine h1 _ ?_) <;> try (first | exact stepJ (by assumption) (by first | assumption | (refine ⟨?_, ?_, ?_, ?_, ?_⟩ <;> omega) | (refine ⟨?_, ?_, ?_⟩ <;> omega)) (by omega) | (intro j hj1 hj2; exact g4 j hj1 (by omega)) | (intro j hj1 hj2; omega) | with_reducible rfl | assumption | omega | solve_by_elim [szL_get, szO_f, szO_d, szO_s]))
      | ((with_reducible refine h2 _ ?_ ?_) <;> try (first | exact stepJ (by assumption) (by first | assumption | (refine ⟨?_, ?_, ?_, ?_, ?_⟩ <;> omega) | (refine ⟨?_, ?_, ?_⟩ <;> omega)) (by omega) | (intro j hj1 hj2; exact g4 j hj1 (by omega)) | (intro j hj1 hj2; omega) | with_reducible rfl | assumption | omega | solve_by_elim [szL_get, szO_f, szO_d, szO_s]))
      | ((with_reducible refine tna ?_ ?_ ?_); omega; omega)
      | ((with_reducible refine tnb ?_ ?_); focus (first | omega | (first | exact stepJ (by assumption) (by first | assumption | (refine ⟨?_, ?_, ?_, ?_, ?_⟩ <;> omega) | (refine ⟨?_, ?_, ?_⟩ <;> omega)) (by omega) | (intro j hj1 hj2; exact g4 j hj1 (by omega)) | (intro j hj1 hj2; omega) | with_reducible rfl | assumption | omega | solve_by_elim [szL_get, szO_f, szO_d, szO_s])))
      | ((with_reducible refine tn ?_ ?_); assumption)
      | with_reducible refine tct ?_
      | with_reducible refine tcf ?_
      | with_reducible refine tcn ?_
      | with_reducible refine tcd ?_ ?_
      | with_reducible refine tce ?_ ?_
      | with_reducible refine tcne ?_ ?_
      | with_reducible refine tc ?_ ?_
      | ((with_reducible refine ih ?_ ?_ ?_ ?_ ?_ h1 h2) <;> try (first | exact stepJ (by assumption) (by first | assumption | (refine ⟨?_, ?_, ?_, ?_, ?_⟩ <;> omega) | (refine ⟨?_, ?_, ?_⟩ <;> omega)) (by omega) | (intro j hj1 hj2; exact g4 j hj1 (by omega)) | (intro j hj1 hj2; omega) | with_reducible rfl | assumption | omega | solve_by_elim [szL_get, szO_f, szO_d, szO_s]))

theorem ref25_Few_L2_c : ∀ {m : Nat} {n1332 : Int} {t1333 : Prog} {H1 : Bool → (ι → O) → O} {H2 : Prog → (ι → O) → O} (g0 : 0 ≤ n1332) (g1 : n1332 ≤ (((List.length t1333.2.1) : Nat) : Int)) (g2 : (((List.length t1333.2.1) : Nat) : Int) < n1332 + m) (g3 : t1333.2.1.length ≤ 1000000) (g4 : ∀ j : Int, 0 ≤ j → j < n1332 → ((List.getD t1333.2.1 (Int.toNat j) ((0 : Int), ((0 : Int), ((⟨#[]⟩ : ByteArray), ((0 : Int), ([], ([], ([], ())))))))).2.2.2.2.1.length ≤ 80 ∧ (List.getD t1333.2.1 (Int.toNat j) ((0 : Int), ((0 : Int), ((⟨#[]⟩ : ByteArray), ((0 : Int), ([], ([], ([], ())))))))).2.2.2.2.2.2.1.length ≤ 80 ∧ (List.getD t1333.2.1 (Int.toNat j) ((0 : Int), ((0 : Int), ((⟨#[]⟩ : ByteArray), ((0 : Int), ([], ([], ([], ())))))))).2.2.2.2.2.1.length ≤ 80))
    (h1 : ∀ (a0 : Bool), (a0 = false) → T P (H1 a0))
    (h2 : ∀ (a0 : Prog), t1333 = a0 → (∀ j : Int, 0 ≤ j → j < (t1333.2.1.length : Int) → ((List.getD t1333.2.1 (Int.toNat j) ((0 : Int), ((0 : Int), ((⟨#[]⟩ : ByteArray), ((0 : Int), ([], ([], ([], ())))))))).2.2.2.2.1.length ≤ 80 ∧ (List.getD t1333.2.1 (Int.toNat j) ((0 : Int), ((0 : Int), ((⟨#[]⟩ : ByteArray), ((0 : Int), ([], ([], ([], ())))))))).2.2.2.2.2.2.1.length ≤ 80 ∧ (List.getD t1333.2.1 (Int.toNat j) ((0 : Int), ((0 : Int), ((⟨#[]⟩ : ByteArray), ((0 : Int), ([], ([], ([], ())))))))).2.2.2.2.2.1.length ≤ 80)) → T P (H2 a0)),
    T P (fun K => ref25_Few_L2 m n1332 t1333 (fun a0 => H1 a0 K) (fun a0 => H2 a0 K)) := by
  intro m
  induction m with
  | zero => intros; omega
  | succ m ih =>
    intro n1332 t1333 H1 H2 g0 g1 g2 g3 g4 h1 h2
    rw [ref25_Few_L2]
    unfold ref25_Few_L2.body
    have := wr64 ((n1332 + (1 : Int)))
    repeat' first
      | (intro q; try subst q)
      | ((with_reducible refine h1 _ ?_) <;> try (first | exact stepJ (by assumption) (by first | assumption | (refine ⟨?_, ?_, ?_, ?_, ?_⟩ <;> omega) | (refine ⟨?_, ?_, ?_⟩ <;> omega)) (by omega) | (intro j hj1 hj2; exact g4 j hj1 (by omega)) | (intro j hj1 hj2; omega) | with_reducible rfl | assumption | omega | solve_by_elim [szL_get, szO_f, szO_d, szO_s]))
      | ((with_reducible refine h2 _ ?_ ?_) <;> try (first | exact stepJ (by assumption) (by first | assumption | (refine ⟨?_, ?_, ?_, ?_, ?_⟩ <;> omega) | (refine ⟨?_, ?_, ?_⟩ <;> omega)) (by omega) | (intro j hj1 hj2; exact g4 j hj1 (by omega)) | (intro j hj1 hj2; omega) | with_reducible rfl | assumption | omega | solve_by_elim [szL_get, szO_f, szO_d, szO_s]))
      | ((with_reducible refine tna ?_ ?_ ?_); omega; omega)
      | ((with_reducible refine tnb ?_ ?_); focus (first | omega | (first | exact stepJ (by assumption) (by first | assumption | (refine ⟨?_, ?_, ?_, ?_, ?_⟩ <;> omega) | (refine ⟨?_, ?_, ?_⟩ <;> omega)) (by omega) | (intro j hj1 hj2; exact g4 j hj1 (by omega)) | (intro j hj1 hj2; omega) | with_reducible rfl | assumption | omega | solve_by_elim [szL_get, szO_f, szO_d, szO_s])))
      | ((with_reducible refine tn ?_ ?_); assumption)
      | with_reducible refine tct ?_
      | with_reducible refine tcf ?_
      | with_reducible refine tcn ?_
      | with_reducible refine tcd ?_ ?_
      | with_reducible refine tce ?_ ?_
      | with_reducible refine tcne ?_ ?_
      | with_reducible refine tc ?_ ?_
      | ((with_reducible refine ih ?_ ?_ ?_ ?_ ?_ h1 h2) <;> try (first | exact stepJ (by assumption) (by first | assumption | (refine ⟨?_, ?_, ?_, ?_, ?_⟩ <;> omega) | (refine ⟨?_, ?_, ?_⟩ <;> omega)) (by omega) | (intro j hj1 hj2; exact g4 j hj1 (by omega)) | (intro j hj1 hj2; omega) | with_reducible rfl | assumption | omega | solve_by_elim [szL_get, szO_f, szO_d, szO_s]))

theorem ref25_Few_c {t1327 : Prog} {H1 : Bool → (ι → O) → O} (g0 : t1327.1.length ≤ 1000000) (g1 : t1327.2.1.length ≤ 1000000)
    (h1 : ∀ (a0 : Bool), (a0 = true → few25 t1327) → T P (H1 a0)) :
    T P (fun K => ref25_Few t1327 (fun a0 => H1 a0 K)) := by
  unfold ref25_Few ref25_Few.body
  have := rb
  repeat' first
    | (intro q; try subst q)
    | ((with_reducible refine h1 _ ?_) <;> try (first | (intro h; contradiction) | (intro j hj1 hj2; omega) | (intro h; have := of_decide_eq_true h; exact ⟨by omega, by omega, all_of_getD (by assumption), all_of_getD (by assumption)⟩) | with_reducible rfl | assumption | omega | solve_by_elim [szL_get, szO_f, szO_d, szO_s]))
    | ((with_reducible refine tna ?_ ?_ ?_); omega; omega)
    | ((with_reducible refine tnb ?_ ?_); focus (first | omega | (first | (intro h; contradiction) | (intro j hj1 hj2; omega) | (intro h; have := of_decide_eq_true h; exact ⟨by omega, by omega, all_of_getD (by assumption), all_of_getD (by assumption)⟩) | with_reducible rfl | assumption | omega | solve_by_elim [szL_get, szO_f, szO_d, szO_s])))
    | ((with_reducible refine tn ?_ ?_); assumption)
    | with_reducible refine tct ?_
    | with_reducible refine tcf ?_
    | with_reducible refine tcn ?_
    | with_reducible refine tcd ?_ ?_
    | with_reducible refine tce ?_ ?_
    | with_reducible refine tcne ?_ ?_
    | with_reducible refine tc ?_ ?_
    | ((with_reducible refine ref25_Few_L0_c ?_ ?_ ?_ ?_ ?_ ?_ ?_) <;> try (first | (intro h; contradiction) | (intro j hj1 hj2; omega) | (intro h; have := of_decide_eq_true h; exact ⟨by omega, by omega, all_of_getD (by assumption), all_of_getD (by assumption)⟩) | with_reducible rfl | assumption | omega | solve_by_elim [szL_get, szO_f, szO_d, szO_s]))
    | ((with_reducible refine ref25_Few_L2_c ?_ ?_ ?_ ?_ ?_ ?_ ?_) <;> try (first | (intro h; contradiction) | (intro j hj1 hj2; omega) | (intro h; have := of_decide_eq_true h; exact ⟨by omega, by omega, all_of_getD (by assumption), all_of_getD (by assumption)⟩) | with_reducible rfl | assumption | omega | solve_by_elim [szL_get, szO_f, szO_d, szO_s]))

theorem prologue_Full_L0_c : ∀ {m : Nat} {l1354 : List Fun_} {n1355 : Int} {n1356 : Int} {bs1357 : List Bool} {ns1358 : List Int} {H1 : (List Bool) → (List Int) → (ι → O) → O} (g0 : l1354.length ≤ 1000000) (g1 : 0 ≤ n1356) (g2 : n1356 ≤ n1355) (g3 : n1355 ≤ 1000000) (g4 : n1355 < n1356 + m) (g5 : n1355 = (l1354.length : Int)) (g6 : bs1357 = mapR (fun _ => true) n1356) (g7 : ns1358 = mapR (chk l1354) n1356) (g8 : (bs1357.length : Int) = n1356) (g9 : (ns1358.length : Int) = n1356)
    (h1 : ∀ (a0 : List Bool) (a1 : List Int), (a0 = mapR (fun _ => true) (l1354.length : Int)) → (a1 = mapR (chk l1354) (l1354.length : Int)) → T P (H1 a0 a1)),
    T P (fun K => prologue_Full_L0 m l1354 n1355 n1356 bs1357 ns1358 (fun a0 a1 => H1 a0 a1 K)) := by
  intro m
  induction m with
  | zero => intros; omega
  | succ m ih =>
    intro l1354 n1355 n1356 bs1357 ns1358 H1 g0 g1 g2 g3 g4 g5 g6 g7 g8 g9 h1
    rw [prologue_Full_L0]
    unfold prologue_Full_L0.body
    have := wr64 ((n1356 + (1 : Int)))
    repeat' first
      | (intro q; try subst q)
      | ((with_reducible refine h1 _ _ ?_ ?_) <;> try (first | exact mapR_nil | exact mapR_step (by assumption) (by omega) (by omega) (by first | rfl | (unfold chk; rw [show (List.getD l1354 (Int.toNat n1356) ((0 : Int), ((0 : Int), ((⟨#[]⟩ : ByteArray), ((0 : Int), ([], ((0 : Int), (false, ((0 : Int), ((0 : Int), ([], ([], ([], ([], ())))))))))))))).2.2.2.2.2.2.1 = true from by assumption]; rfl) | (unfold chk; rw [show (List.getD l1354 (Int.toNat n1356) ((0 : Int), ((0 : Int), ((⟨#[]⟩ : ByteArray), ((0 : Int), ([], ((0 : Int), (false, ((0 : Int), ((0 : Int), ([], ([], ([], ([], ())))))))))))))).2.2.2.2.2.2.1 = false from by assumption]; rfl)) | (rw [show (l1354.length : Int) = n1356 from by omega]; assumption) | (simp only [List.length_append, List.length_cons, List.length_nil] <;> omega) | with_reducible rfl | assumption | omega | solve_by_elim [szL_get, szO_f, szO_d, szO_s]))
      | ((with_reducible refine tna ?_ ?_ ?_); omega; omega)
      | ((with_reducible refine tnb ?_ ?_); focus (first | omega | (first | exact mapR_nil | exact mapR_step (by assumption) (by omega) (by omega) (by first | rfl | (unfold chk; rw [show (List.getD l1354 (Int.toNat n1356) ((0 : Int), ((0 : Int), ((⟨#[]⟩ : ByteArray), ((0 : Int), ([], ((0 : Int), (false, ((0 : Int), ((0 : Int), ([], ([], ([], ([], ())))))))))))))).2.2.2.2.2.2.1 = true from by assumption]; rfl) | (unfold chk; rw [show (List.getD l1354 (Int.toNat n1356) ((0 : Int), ((0 : Int), ((⟨#[]⟩ : ByteArray), ((0 : Int), ([], ((0 : Int), (false, ((0 : Int), ((0 : Int), ([], ([], ([], ([], ())))))))))))))).2.2.2.2.2.2.1 = false from by assumption]; rfl)) | (rw [show (l1354.length : Int) = n1356 from by omega]; assumption) | (simp only [List.length_append, List.length_cons, List.length_nil] <;> omega) | with_reducible rfl | assumption | omega | solve_by_elim [szL_get, szO_f, szO_d, szO_s])))
      | ((with_reducible refine tn ?_ ?_); assumption)
      | with_reducible refine tct ?_
      | with_reducible refine tcf ?_
      | with_reducible refine tcn ?_
      | with_reducible refine tcd ?_ ?_
      | with_reducible refine tce ?_ ?_
      | with_reducible refine tcne ?_ ?_
      | with_reducible refine tc ?_ ?_
      | ((with_reducible refine ih ?_ ?_ ?_ ?_ ?_ ?_ ?_ ?_ ?_ ?_ h1) <;> try (first | exact mapR_nil | exact mapR_step (by assumption) (by omega) (by omega) (by first | rfl | (unfold chk; rw [show (List.getD l1354 (Int.toNat n1356) ((0 : Int), ((0 : Int), ((⟨#[]⟩ : ByteArray), ((0 : Int), ([], ((0 : Int), (false, ((0 : Int), ((0 : Int), ([], ([], ([], ([], ())))))))))))))).2.2.2.2.2.2.1 = true from by assumption]; rfl) | (unfold chk; rw [show (List.getD l1354 (Int.toNat n1356) ((0 : Int), ((0 : Int), ((⟨#[]⟩ : ByteArray), ((0 : Int), ([], ((0 : Int), (false, ((0 : Int), ((0 : Int), ([], ([], ([], ([], ())))))))))))))).2.2.2.2.2.2.1 = false from by assumption]; rfl)) | (rw [show (l1354.length : Int) = n1356 from by omega]; assumption) | (simp only [List.length_append, List.length_cons, List.length_nil] <;> omega) | with_reducible rfl | assumption | omega | solve_by_elim [szL_get, szO_f, szO_d, szO_s]))

theorem prologue_Full_c {t1353 : Prog} {H1 : (List Bool) → (List Int) → (ι → O) → O} (g0 : t1353.1.length ≤ 1000000)
    (h1 : ∀ (a0 : List Bool) (a1 : List Int), (a0 = mapR (fun _ => true) (t1353.1.length : Int)) → (a1 = mapR (chk t1353.1) (t1353.1.length : Int)) → T P (H1 a0 a1)) :
    T P (fun K => prologue_Full t1353 (fun a0 a1 => H1 a0 a1 K)) := by
  unfold prologue_Full prologue_Full.body
  have := rb
  repeat' first
    | (intro q; try subst q)
    | ((with_reducible refine h1 _ _ ?_ ?_) <;> try (first | exact mapR_nil | exact List.length_nil ▸ rfl | with_reducible rfl | assumption | omega | solve_by_elim [szL_get, szO_f, szO_d, szO_s]))
    | ((with_reducible refine tna ?_ ?_ ?_); omega; omega)
    | ((with_reducible refine tnb ?_ ?_); focus (first | omega | (first | exact mapR_nil | exact List.length_nil ▸ rfl | with_reducible rfl | assumption | omega | solve_by_elim [szL_get, szO_f, szO_d, szO_s])))
    | ((with_reducible refine tn ?_ ?_); assumption)
    | with_reducible refine tct ?_
    | with_reducible refine tcf ?_
    | with_reducible refine tcn ?_
    | with_reducible refine tcd ?_ ?_
    | with_reducible refine tce ?_ ?_
    | with_reducible refine tcne ?_ ?_
    | with_reducible refine tc ?_ ?_
    | ((with_reducible refine prologue_Full_L0_c ?_ ?_ ?_ ?_ ?_ ?_ ?_ ?_ ?_ ?_ ?_) <;> try (first | exact mapR_nil | exact List.length_nil ▸ rfl | with_reducible rfl | assumption | omega | solve_by_elim [szL_get, szO_f, szO_d, szO_s]))

theorem ref28_Full_L0_c : ∀ {m : Nat} {n1380 : Int} {t1381 : Prog} {bs1382 : List Bool} {ns1383 : List Int} {H1 : (List Bool) → (List Int) → (ι → O) → O} (g0 : 0 ≤ n1380) (g1 : n1380 ≤ (((List.length t1381.1) : Nat) : Int)) (g2 : (((List.length t1381.1) : Nat) : Int) < n1380 + m) (g3 : t1381.1.length ≤ 1000000) (g4 : bs1382 = mapR (fun _ => true) n1380) (g5 : ns1383 = mapR (chk t1381.1) n1380) (g6 : (bs1382.length : Int) = n1380) (g7 : (ns1383.length : Int) = n1380)
    (h1 : ∀ (a0 : List Bool) (a1 : List Int), (a0 = mapR (fun _ => true) (t1381.1.length : Int)) → (a1 = mapR (chk t1381.1) (t1381.1.length : Int)) → T P (H1 a0 a1)),
    T P (fun K => ref28_Full_L0 m n1380 t1381 bs1382 ns1383 (fun a0 a1 => H1 a0 a1 K)) := by
  intro m
  induction m with
  | zero => intros; omega
  | succ m ih =>
    intro n1380 t1381 bs1382 ns1383 H1 g0 g1 g2 g3 g4 g5 g6 g7 h1
    rw [ref28_Full_L0]
    unfold ref28_Full_L0.body
    have := wr64 ((n1380 + (1 : Int)))
    repeat' first
      | (intro q; try subst q)
      | ((with_reducible refine h1 _ _ ?_ ?_) <;> try (first | exact mapR_nil | exact mapR_step (by assumption) (by omega) (by omega) (by first | rfl | (unfold chk; rw [show (List.getD t1381.1 (Int.toNat n1380) ((0 : Int), ((0 : Int), ((⟨#[]⟩ : ByteArray), ((0 : Int), ([], ((0 : Int), (false, ((0 : Int), ((0 : Int), ([], ([], ([], ([], ())))))))))))))).2.2.2.2.2.2.1 = true from by assumption]; rfl) | (unfold chk; rw [show (List.getD t1381.1 (Int.toNat n1380) ((0 : Int), ((0 : Int), ((⟨#[]⟩ : ByteArray), ((0 : Int), ([], ((0 : Int), (false, ((0 : Int), ((0 : Int), ([], ([], ([], ([], ())))))))))))))).2.2.2.2.2.2.1 = false from by assumption]; rfl)) | (rw [show (t1381.1.length : Int) = n1380 from by omega]; assumption) | (simp only [List.length_append, List.length_cons, List.length_nil] <;> omega) | with_reducible rfl | assumption | omega | solve_by_elim [szL_get, szO_f, szO_d, szO_s]))
      | ((with_reducible refine tna ?_ ?_ ?_); omega; omega)
      | ((with_reducible refine tnb ?_ ?_); focus (first | omega | (first | exact mapR_nil | exact mapR_step (by assumption) (by omega) (by omega) (by first | rfl | (unfold chk; rw [show (List.getD t1381.1 (Int.toNat n1380) ((0 : Int), ((0 : Int), ((⟨#[]⟩ : ByteArray), ((0 : Int), ([], ((0 : Int), (false, ((0 : Int), ((0 : Int), ([], ([], ([], ([], ())))))))))))))).2.2.2.2.2.2.1 = true from by assumption]; rfl) | (unfold chk; rw [show (List.getD t1381.1 (Int.toNat n1380) ((0 : Int), ((0 : Int), ((⟨#[]⟩ : ByteArray), ((0 : Int), ([], ((0 : Int), (false, ((0 : Int), ((0 : Int), ([], ([], ([], ([], ())))))))))))))).2.2.2.2.2.2.1 = false from by assumption]; rfl)) | (rw [show (t1381.1.length : Int) = n1380 from by omega]; assumption) | (simp only [List.length_append, List.length_cons, List.length_nil] <;> omega) | with_reducible rfl | assumption | omega | solve_by_elim [szL_get, szO_f, szO_d, szO_s])))
      | ((with_reducible refine tn ?_ ?_); assumption)
      | with_reducible refine tct ?_
      | with_reducible refine tcf ?_
      | with_reducible refine tcn ?_
      | with_reducible refine tcd ?_ ?_
      | with_reducible refine tce ?_ ?_
      | with_reducible refine tcne ?_ ?_
      | with_reducible refine tc ?_ ?_
      | ((with_reducible refine ih ?_ ?_ ?_ ?_ ?_ ?_ ?_ ?_ h1) <;> try (first | exact mapR_nil | exact mapR_step (by assumption) (by omega) (by omega) (by first | rfl | (unfold chk; rw [show (List.getD t1381.1 (Int.toNat n1380) ((0 : Int), ((0 : Int), ((⟨#[]⟩ : ByteArray), ((0 : Int), ([], ((0 : Int), (false, ((0 : Int), ((0 : Int), ([], ([], ([], ([], ())))))))))))))).2.2.2.2.2.2.1 = true from by assumption]; rfl) | (unfold chk; rw [show (List.getD t1381.1 (Int.toNat n1380) ((0 : Int), ((0 : Int), ((⟨#[]⟩ : ByteArray), ((0 : Int), ([], ((0 : Int), (false, ((0 : Int), ((0 : Int), ([], ([], ([], ([], ())))))))))))))).2.2.2.2.2.2.1 = false from by assumption]; rfl)) | (rw [show (t1381.1.length : Int) = n1380 from by omega]; assumption) | (simp only [List.length_append, List.length_cons, List.length_nil] <;> omega) | with_reducible rfl | assumption | omega | solve_by_elim [szL_get, szO_f, szO_d, szO_s]))

theorem ref28_Full_c {t1379 : Prog} {H1 : (List Bool) → (List Int) → (ι → O) → O} (g0 : t1379.1.length ≤ 1000000)
    (h1 : ∀ (a0 : List Bool) (a1 : List Int), (a0 = mapR (fun _ => true) (t1379.1.length : Int)) → (a1 = mapR (chk t1379.1) (t1379.1.length : Int)) → T P (H1 a0 a1)) :
    T P (fun K => ref28_Full t1379 (fun a0 a1 => H1 a0 a1 K)) := by
  unfold ref28_Full ref28_Full.body
  have := rb
  repeat' first
    | (intro q; try subst q)
    | ((with_reducible refine h1 _ _ ?_ ?_) <;> try (first | exact mapR_nil | exact List.length_nil ▸ rfl | with_reducible rfl | assumption | omega | solve_by_elim [szL_get, szO_f, szO_d, szO_s]))
    | ((with_reducible refine tna ?_ ?_ ?_); omega; omega)
    | ((with_reducible refine tnb ?_ ?_); focus (first | omega | (first | exact mapR_nil | exact List.length_nil ▸ rfl | with_reducible rfl | assumption | omega | solve_by_elim [szL_get, szO_f, szO_d, szO_s])))
    | ((with_reducible refine tn ?_ ?_); assumption)
    | with_reducible refine tct ?_
    | with_reducible refine tcf ?_
    | with_reducible refine tcn ?_
    | with_reducible refine tcd ?_ ?_
    | with_reducible refine tce ?_ ?_
    | with_reducible refine tcne ?_ ?_
    | with_reducible refine tc ?_ ?_
    | ((with_reducible refine ref28_Full_L0_c ?_ ?_ ?_ ?_ ?_ ?_ ?_ ?_ ?_) <;> try (first | exact mapR_nil | exact List.length_nil ▸ rfl | with_reducible rfl | assumption | omega | solve_by_elim [szL_get, szO_f, szO_d, szO_s]))

theorem ref28_Same_L0_c : ∀ {m : Nat} {n1392 : Int} {bs1393 : List Bool} {ns1394 : List Int} {bs1395 : List Bool} {ns1396 : List Int} {H1 : Bool → (ι → O) → O} {H2 : (List Bool) → (List Int) → (List Bool) → (List Int) → (ι → O) → O} (g0 : 0 ≤ n1392) (g1 : n1392 ≤ (((List.length bs1393) : Nat) : Int)) (g2 : (((List.length bs1393) : Nat) : Int) < n1392 + m) (g3 : bs1393.length ≤ 1000000) (g4 : bs1393 = bs1395)
    (h1 : ∀ (a0 : Bool), (False) → T P (H1 a0))
    (h2 : ∀ (a0 : List Bool) (a1 : List Int) (a2 : List Bool) (a3 : List Int), bs1393 = a0 → ns1394 = a1 → bs1395 = a2 → ns1396 = a3 → T P (H2 a0 a1 a2 a3)),
    T P (fun K => ref28_Same_L0 m n1392 bs1393 ns1394 bs1395 ns1396 (fun a0 => H1 a0 K) (fun a0 a1 a2 a3 => H2 a0 a1 a2 a3 K)) := by
  intro m
  induction m with
  | zero => intros; omega
  | succ m ih =>
    intro n1392 bs1393 ns1394 bs1395 ns1396 H1 H2 g0 g1 g2 g3 g4 h1 h2
    rw [ref28_Same_L0]
    unfold ref28_Same_L0.body
    have := wr64 ((n1392 + (1 : Int)))
    subst g4
    repeat' first
      | (intro q; try subst q)
      | ((with_reducible refine h1 _ ?_) <;> try (first | (simp_all; done) | with_reducible rfl | assumption | omega | solve_by_elim [szL_get, szO_f, szO_d, szO_s]))
      | ((with_reducible refine h2 _ _ _ _ ?_ ?_ ?_ ?_) <;> try (first | (simp_all; done) | with_reducible rfl | assumption | omega | solve_by_elim [szL_get, szO_f, szO_d, szO_s]))
      | ((with_reducible refine tna ?_ ?_ ?_); omega; omega)
      | ((with_reducible refine tnb ?_ ?_); focus (first | omega | (first | (simp_all; done) | with_reducible rfl | assumption | omega | solve_by_elim [szL_get, szO_f, szO_d, szO_s])))
      | ((with_reducible refine tn ?_ ?_); assumption)
      | with_reducible refine tct ?_
      | with_reducible refine tcf ?_
      | with_reducible refine tcn ?_
      | with_reducible refine tcd ?_ ?_
      | with_reducible refine tce ?_ ?_
      | with_reducible refine tcne ?_ ?_
      | with_reducible refine tc ?_ ?_
      | ((with_reducible refine ih ?_ ?_ ?_ ?_ ?_ h1 h2) <;> try (first | (simp_all; done) | with_reducible rfl | assumption | omega | solve_by_elim [szL_get, szO_f, szO_d, szO_s]))

theorem ref28_Same_L2_c : ∀ {m : Nat} {n1402 : Int} {bs1403 : List Bool} {ns1404 : List Int} {bs1405 : List Bool} {ns1406 : List Int} {H1 : Bool → (ι → O) → O} {H2 : (ι → O) → O} (g0 : 0 ≤ n1402) (g1 : n1402 ≤ (((List.length ns1404) : Nat) : Int)) (g2 : (((List.length ns1404) : Nat) : Int) < n1402 + m) (g3 : ns1404.length ≤ 1000000) (g4 : ns1404 = ns1406)
    (h1 : ∀ (a0 : Bool), (False) → T P (H1 a0))
    (h2 : T P H2),
    T P (fun K => ref28_Same_L2 m n1402 bs1403 ns1404 bs1405 ns1406 (fun a0 => H1 a0 K) (H2 K)) := by
  intro m
  induction m with
  | zero => intros; omega
  | succ m ih =>
    intro n1402 bs1403 ns1404 bs1405 ns1406 H1 H2 g0 g1 g2 g3 g4 h1 h2
    rw [ref28_Same_L2]
    unfold ref28_Same_L2.body
    have := wr64 ((n1402 + (1 : Int)))
    subst g4
    repeat' first
      | (intro q; try subst q)
      | ((with_reducible refine h1 _ ?_) <;> try (first | contradiction | with_reducible rfl | assumption | omega | solve_by_elim [szL_get, szO_f, szO_d, szO_s]))
      | ((with_reducible refine h2))
      | ((with_reducible refine tna ?_ ?_ ?_); omega; omega)
      | ((with_reducible refine tnb ?_ ?_); focus (first | omega | (first | contradiction | with_reducible rfl | assumption | omega | solve_by_elim [szL_get, szO_f, szO_d, szO_s])))
      | ((with_reducible refine tn ?_ ?_); assumption)
      | with_reducible refine tct ?_
      | with_reducible refine tcf ?_
      | with_reducible refine tcn ?_
      | with_reducible refine tcd ?_ ?_
      | with_reducible refine tce ?_ ?_
      | with_reducible refine tcne ?_ ?_
      | with_reducible refine tc ?_ ?_
      | ((with_reducible refine ih ?_ ?_ ?_ ?_ ?_ h1 h2) <;> try (first | contradiction | with_reducible rfl | assumption | omega | solve_by_elim [szL_get, szO_f, szO_d, szO_s]))

theorem ref28_Same_c {bs1388 : List Bool} {ns1389 : List Int} {bs1390 : List Bool} {ns1391 : List Int} {H1 : Bool → (ι → O) → O} (g0 : bs1388.length ≤ 1000000) (g1 : ns1389.length ≤ 1000000) (g2 : bs1388 = bs1390) (g3 : ns1389 = ns1391)
    (h1 : ∀ (a0 : Bool), (a0 = true) → T P (H1 a0)) :
    T P (fun K => ref28_Same bs1388 ns1389 bs1390 ns1391 (fun a0 => H1 a0 K)) := by
  unfold ref28_Same ref28_Same.body
  have := rb
  subst g2
  subst g3
  repeat' first
    | (intro q; try subst q)
    | ((with_reducible refine h1 _ ?_) <;> try (first | contradiction | with_reducible rfl | assumption | omega | solve_by_elim [szL_get, szO_f, szO_d, szO_s]))
    | ((with_reducible refine tna ?_ ?_ ?_); omega; omega)
    | ((with_reducible refine tnb ?_ ?_); focus (first | omega | (first | contradiction | with_reducible rfl | assumption | omega | solve_by_elim [szL_get, szO_f, szO_d, szO_s])))
    | ((with_reducible refine tn ?_ ?_); assumption)
    | with_reducible refine tct ?_
    | with_reducible refine tcf ?_
    | with_reducible refine tcn ?_
    | with_reducible refine tcd ?_ ?_
    | with_reducible refine tce ?_ ?_
    | with_reducible refine tcne ?_ ?_
    | with_reducible refine tc ?_ ?_
    | ((with_reducible refine ref28_Same_L0_c ?_ ?_ ?_ ?_ ?_ ?_ ?_) <;> try (first | contradiction | with_reducible rfl | assumption | omega | solve_by_elim [szL_get, szO_f, szO_d, szO_s]))
    | ((with_reducible refine ref28_Same_L2_c ?_ ?_ ?_ ?_ ?_ ?_ ?_) <;> try (first | contradiction | with_reducible rfl | assumption | omega | solve_by_elim [szL_get, szO_f, szO_d, szO_s]))

theorem num_Near_c {n1418 : Int} {n1419 : Int} {n1420 : Int} {H1 : Int → (ι → O) → O} 
    (h1 : ∀ (a0 : Int), (a0 = nearV n1418 n1419 n1420) → T P (H1 a0)) :
    T P (fun K => num_Near n1418 n1419 n1420 (fun a0 => H1 a0 K)) := by
  unfold num_Near num_Near.body
  repeat' first
    | (intro q; try subst q)
    | ((with_reducible refine h1 _ ?_) <;> try (first | (unfold nearV; rw [if_pos (by assumption)]) | (unfold nearV; rw [if_neg (by assumption), if_pos (by assumption)]) | (unfold nearV; rw [if_neg (by assumption), if_neg (by assumption)]) | with_reducible rfl | assumption | omega | solve_by_elim [szL_get, szO_f, szO_d, szO_s]))
    | ((with_reducible refine tna ?_ ?_ ?_); omega; omega)
    | ((with_reducible refine tnb ?_ ?_); focus (first | omega | (first | (unfold nearV; rw [if_pos (by assumption)]) | (unfold nearV; rw [if_neg (by assumption), if_pos (by assumption)]) | (unfold nearV; rw [if_neg (by assumption), if_neg (by assumption)]) | with_reducible rfl | assumption | omega | solve_by_elim [szL_get, szO_f, szO_d, szO_s])))
    | ((with_reducible refine tn ?_ ?_); assumption)
    | with_reducible refine tct ?_
    | with_reducible refine tcf ?_
    | with_reducible refine tcn ?_
    | with_reducible refine tcd ?_ ?_
    | with_reducible refine tce ?_ ?_
    | with_reducible refine tcne ?_ ?_
    | with_reducible refine tc ?_ ?_

theorem fun_Frame_c {t1417 : Func} {H1 : Int → (ι → O) → O} 
    (h1 : ∀ (a0 : Int), (a0 = frameV t1417.2.1 t1417.2.2.1) → T P (H1 a0)) :
    T P (fun K => fun_Frame t1417 (fun a0 => H1 a0 K)) := by
  unfold fun_Frame fun_Frame.body
  repeat' first
    | (intro q; try subst q)
    | ((with_reducible refine h1 _ ?_) <;> try (first | rfl | with_reducible rfl | assumption | omega | solve_by_elim [szL_get, szO_f, szO_d, szO_s]))
    | ((with_reducible refine tna ?_ ?_ ?_); omega; omega)
    | ((with_reducible refine tnb ?_ ?_); focus (first | omega | (first | rfl | with_reducible rfl | assumption | omega | solve_by_elim [szL_get, szO_f, szO_d, szO_s])))
    | ((with_reducible refine tn ?_ ?_); assumption)
    | with_reducible refine tct ?_
    | with_reducible refine tcf ?_
    | with_reducible refine tcn ?_
    | with_reducible refine tcd ?_ ?_
    | with_reducible refine tce ?_ ?_
    | with_reducible refine tcne ?_ ?_
    | with_reducible refine tc ?_ ?_
    | ((with_reducible refine num_Near_c ?_))

theorem prologue_Least_c {n1423 : Int} {H1 : Int → (ι → O) → O} 
    (h1 : ∀ (a0 : Int), (a0 = leastV n1423) → T P (H1 a0)) :
    T P (fun K => prologue_Least n1423 (fun a0 => H1 a0 K)) := by
  unfold prologue_Least prologue_Least.body
  repeat' first
    | (intro q; try subst q)
    | ((with_reducible refine h1 _ ?_) <;> try (first | (unfold leastV; rw [if_pos (by assumption)]) | (unfold leastV; rw [if_neg (by assumption), if_pos (by assumption)]) | (unfold leastV; rw [if_neg (by assumption), if_neg (by assumption)]) | with_reducible rfl | assumption | omega | solve_by_elim [szL_get, szO_f, szO_d, szO_s]))
    | ((with_reducible refine tna ?_ ?_ ?_); omega; omega)
    | ((with_reducible refine tnb ?_ ?_); focus (first | omega | (first | (unfold leastV; rw [if_pos (by assumption)]) | (unfold leastV; rw [if_neg (by assumption), if_pos (by assumption)]) | (unfold leastV; rw [if_neg (by assumption), if_neg (by assumption)]) | with_reducible rfl | assumption | omega | solve_by_elim [szL_get, szO_f, szO_d, szO_s])))
    | ((with_reducible refine tn ?_ ?_); assumption)
    | with_reducible refine tct ?_
    | with_reducible refine tcf ?_
    | with_reducible refine tcn ?_
    | with_reducible refine tcd ?_ ?_
    | with_reducible refine tce ?_ ?_
    | with_reducible refine tcne ?_ ?_
    | with_reducible refine tc ?_ ?_

theorem prologue_has_c {bs : List Bool} {i : Int} {H1 : Bool → (ι → O) → O} (h1 : ∀ b, (0 ≤ i → b = List.getD bs (Int.toNat i) false) → (i < 0 → b = false) → T P (H1 b)) : T P (fun K => prologue_has bs i (fun a => H1 a K)) := by
  unfold prologue_has prologue_has.body
  refine tcd (fun h => tcd (fun h2 => tna (by omega) (by omega) (h1 _ (fun _ => rfl) (fun h => by omega))) (fun h2 => h1 _ (fun _ => (getD_ge (by omega)).symm) (fun _ => rfl))) (fun h => h1 _ (fun h => by omega) (fun _ => rfl))
theorem has_nn {bs : List Bool} {i : Int} {H1 : Bool → (ι → O) → O} (h : 0 ≤ i) (h1 : T P (H1 (List.getD bs (Int.toNat i) false))) : T P (fun K => prologue_has bs i (fun a => H1 a K)) := prologue_has_c (fun b e _ => by rw [e h]; exact h1)

theorem prologue_Lean_L0_c : ∀ {m : Nat} {bs1448 : List Bool} {bs1449 : List Bool} {l1450 : List Fun_} {n1451 : Int} {n1452 : Int} {bs1453 : List Bool} {ns1454 : List Int} {H1 : (List Bool) → (List Int) → (ι → O) → O} (g0 : l1450.length ≤ 1000000) (g1 : 0 ≤ n1452) (g2 : n1452 ≤ n1451) (g3 : n1451 ≤ 1000000) (g4 : n1451 < n1452 + m) (g5 : n1451 = (l1450.length : Int)) (g6 : bs1453 = mapR (fun i => List.getD bs1448 i false) n1452) (g7 : ns1454 = mapR (lc l1450 bs1449) n1452) (g8 : (bs1453.length : Int) = n1452) (g9 : (ns1454.length : Int) = n1452)
    (h1 : ∀ (a0 : List Bool) (a1 : List Int), (a0 = mapR (fun i => List.getD bs1448 i false) (l1450.length : Int)) → (a1 = mapR (lc l1450 bs1449) (l1450.length : Int)) → T P (H1 a0 a1)),
    T P (fun K => prologue_Lean_L0 m bs1448 bs1449 l1450 n1451 n1452 bs1453 ns1454 (fun a0 a1 => H1 a0 a1 K)) := by
  intro m
  induction m with
  | zero => intros; omega
  | succ m ih =>
    intro bs1448 bs1449 l1450 n1451 n1452 bs1453 ns1454 H1 g0 g1 g2 g3 g4 g5 g6 g7 g8 g9 h1
    rw [prologue_Lean_L0]
    unfold prologue_Lean_L0.body
    have := wr64 ((n1452 + (1 : Int)))
    repeat' first
      | (intro q; try subst q)
      | ((with_reducible refine h1 _ _ ?_ ?_) <;> try (first | exact mapR_nil | exact mapR_step (by assumption) (by omega) (by omega) (by first | rfl | exact (getD_ge (by omega)).symm | (unfold lc; rw [show List.getD bs1449 (Int.toNat n1452) false = true from by assumption]; rfl) | (unfold lc; rw [show List.getD bs1449 (Int.toNat n1452) false = false from by first | assumption | exact getD_ge (by omega)]; rfl)) | (simp only [List.length_append, List.length_cons, List.length_nil] <;> omega) | (rw [show (l1450.length : Int) = n1452 from by omega]; assumption) | with_reducible rfl | assumption | omega | solve_by_elim [szL_get, szO_f, szO_d, szO_s]))
      | ((with_reducible refine tna ?_ ?_ ?_); omega; omega)
      | ((with_reducible refine tnb ?_ ?_); focus (first | omega | (first | exact mapR_nil | exact mapR_step (by assumption) (by omega) (by omega) (by first | rfl | exact (getD_ge (by omega)).symm | (unfold lc; rw [show List.getD bs1449 (Int.toNat n1452) false = true from by assumption]; rfl) | (unfold lc; rw [show List.getD bs1449 (Int.toNat n1452) false = false from by first | assumption | exact getD_ge (by omega)]; rfl)) | (simp only [List.length_append, List.length_cons, List.length_nil] <;> omega) | (rw [show (l1450.length : Int) = n1452 from by omega]; assumption) | with_reducible rfl | assumption | omega | solve_by_elim [szL_get, szO_f, szO_d, szO_s])))
      | ((with_reducible refine tn ?_ ?_); assumption)
      | with_reducible refine tct ?_
      | with_reducible refine tcf ?_
      | with_reducible refine tcn ?_
      | with_reducible refine tcd ?_ ?_
      | with_reducible refine tce ?_ ?_
      | with_reducible refine tcne ?_ ?_
      | with_reducible refine tc ?_ ?_
      | ((with_reducible refine ih ?_ ?_ ?_ ?_ ?_ ?_ ?_ ?_ ?_ ?_ h1) <;> try (first | exact mapR_nil | exact mapR_step (by assumption) (by omega) (by omega) (by first | rfl | exact (getD_ge (by omega)).symm | (unfold lc; rw [show List.getD bs1449 (Int.toNat n1452) false = true from by assumption]; rfl) | (unfold lc; rw [show List.getD bs1449 (Int.toNat n1452) false = false from by first | assumption | exact getD_ge (by omega)]; rfl)) | (simp only [List.length_append, List.length_cons, List.length_nil] <;> omega) | (rw [show (l1450.length : Int) = n1452 from by omega]; assumption) | with_reducible rfl | assumption | omega | solve_by_elim [szL_get, szO_f, szO_d, szO_s]))
      | ((with_reducible refine fun_Frame_c ?_))
      | ((with_reducible refine prologue_Least_c ?_))
      | ((with_reducible refine has_nn ?_ ?_) <;> try (first | exact mapR_nil | exact mapR_step (by assumption) (by omega) (by omega) (by first | rfl | exact (getD_ge (by omega)).symm | (unfold lc; rw [show List.getD bs1449 (Int.toNat n1452) false = true from by assumption]; rfl) | (unfold lc; rw [show List.getD bs1449 (Int.toNat n1452) false = false from by first | assumption | exact getD_ge (by omega)]; rfl)) | (simp only [List.length_append, List.length_cons, List.length_nil] <;> omega) | (rw [show (l1450.length : Int) = n1452 from by omega]; assumption) | with_reducible rfl | assumption | omega | solve_by_elim [szL_get, szO_f, szO_d, szO_s]))

theorem prologue_Lean_c {t1445 : Prog} {bs1446 : List Bool} {bs1447 : List Bool} {H1 : (List Bool) → (List Int) → (ι → O) → O} (g0 : t1445.1.length ≤ 1000000)
    (h1 : ∀ (a0 : List Bool) (a1 : List Int), (a0 = mapR (fun i => List.getD bs1446 i false) (t1445.1.length : Int)) → (a1 = mapR (lc t1445.1 bs1447) (t1445.1.length : Int)) → T P (H1 a0 a1)) :
    T P (fun K => prologue_Lean t1445 bs1446 bs1447 (fun a0 a1 => H1 a0 a1 K)) := by
  unfold prologue_Lean prologue_Lean.body
  have := rb
  repeat' first
    | (intro q; try subst q)
    | ((with_reducible refine h1 _ _ ?_ ?_) <;> try (first | exact mapR_nil | exact List.length_nil ▸ rfl | with_reducible rfl | assumption | omega | solve_by_elim [szL_get, szO_f, szO_d, szO_s]))
    | ((with_reducible refine tna ?_ ?_ ?_); omega; omega)
    | ((with_reducible refine tnb ?_ ?_); focus (first | omega | (first | exact mapR_nil | exact List.length_nil ▸ rfl | with_reducible rfl | assumption | omega | solve_by_elim [szL_get, szO_f, szO_d, szO_s])))
    | ((with_reducible refine tn ?_ ?_); assumption)
    | with_reducible refine tct ?_
    | with_reducible refine tcf ?_
    | with_reducible refine tcn ?_
    | with_reducible refine tcd ?_ ?_
    | with_reducible refine tce ?_ ?_
    | with_reducible refine tcne ?_ ?_
    | with_reducible refine tc ?_ ?_
    | ((with_reducible refine prologue_Lean_L0_c ?_ ?_ ?_ ?_ ?_ ?_ ?_ ?_ ?_ ?_ ?_) <;> try (first | exact mapR_nil | exact List.length_nil ▸ rfl | with_reducible rfl | assumption | omega | solve_by_elim [szL_get, szO_f, szO_d, szO_s]))

theorem ref01_Near_c {n1499 : Int} {n1500 : Int} {n1501 : Int} {H1 : Int → (ι → O) → O} 
    (h1 : ∀ (a0 : Int), (a0 = nearV n1499 n1500 n1501) → T P (H1 a0)) :
    T P (fun K => ref01_Near n1499 n1500 n1501 (fun a0 => H1 a0 K)) := by
  unfold ref01_Near ref01_Near.body
  repeat' first
    | (intro q; try subst q)
    | ((with_reducible refine h1 _ ?_) <;> try (first | (unfold nearV; rw [if_pos (by assumption)]) | (unfold nearV; rw [if_neg (by assumption), if_pos (by assumption)]) | (unfold nearV; rw [if_neg (by assumption), if_neg (by assumption)]) | with_reducible rfl | assumption | omega | solve_by_elim [szL_get, szO_f, szO_d, szO_s]))
    | ((with_reducible refine tna ?_ ?_ ?_); omega; omega)
    | ((with_reducible refine tnb ?_ ?_); focus (first | omega | (first | (unfold nearV; rw [if_pos (by assumption)]) | (unfold nearV; rw [if_neg (by assumption), if_pos (by assumption)]) | (unfold nearV; rw [if_neg (by assumption), if_neg (by assumption)]) | with_reducible rfl | assumption | omega | solve_by_elim [szL_get, szO_f, szO_d, szO_s])))
    | ((with_reducible refine tn ?_ ?_); assumption)
    | with_reducible refine tct ?_
    | with_reducible refine tcf ?_
    | with_reducible refine tcn ?_
    | with_reducible refine tcd ?_ ?_
    | with_reducible refine tce ?_ ?_
    | with_reducible refine tcne ?_ ?_
    | with_reducible refine tc ?_ ?_

theorem ref16_Frame_c {t1498 : Func} {H1 : Int → (ι → O) → O} 
    (h1 : ∀ (a0 : Int), (a0 = frameV t1498.2.1 t1498.2.2.1) → T P (H1 a0)) :
    T P (fun K => ref16_Frame t1498 (fun a0 => H1 a0 K)) := by
  unfold ref16_Frame ref16_Frame.body
  repeat' first
    | (intro q; try subst q)
    | ((with_reducible refine h1 _ ?_) <;> try (first | rfl | with_reducible rfl | assumption | omega | solve_by_elim [szL_get, szO_f, szO_d, szO_s]))
    | ((with_reducible refine tna ?_ ?_ ?_); omega; omega)
    | ((with_reducible refine tnb ?_ ?_); focus (first | omega | (first | rfl | with_reducible rfl | assumption | omega | solve_by_elim [szL_get, szO_f, szO_d, szO_s])))
    | ((with_reducible refine tn ?_ ?_); assumption)
    | with_reducible refine tct ?_
    | with_reducible refine tcf ?_
    | with_reducible refine tcn ?_
    | with_reducible refine tcd ?_ ?_
    | with_reducible refine tce ?_ ?_
    | with_reducible refine tcne ?_ ?_
    | with_reducible refine tc ?_ ?_
    | ((with_reducible refine ref01_Near_c ?_))

theorem ref28_Least_c {n1504 : Int} {H1 : Int → (ι → O) → O} 
    (h1 : ∀ (a0 : Int), (a0 = leastV n1504) → T P (H1 a0)) :
    T P (fun K => ref28_Least n1504 (fun a0 => H1 a0 K)) := by
  unfold ref28_Least ref28_Least.body
  repeat' first
    | (intro q; try subst q)
    | ((with_reducible refine h1 _ ?_) <;> try (first | (unfold leastV; rw [if_pos (by assumption)]) | (unfold leastV; rw [if_neg (by assumption), if_pos (by assumption)]) | (unfold leastV; rw [if_neg (by assumption), if_neg (by assumption)]) | with_reducible rfl | assumption | omega | solve_by_elim [szL_get, szO_f, szO_d, szO_s]))
    | ((with_reducible refine tna ?_ ?_ ?_); omega; omega)
    | ((with_reducible refine tnb ?_ ?_); focus (first | omega | (first | (unfold leastV; rw [if_pos (by assumption)]) | (unfold leastV; rw [if_neg (by assumption), if_pos (by assumption)]) | (unfold leastV; rw [if_neg (by assumption), if_neg (by assumption)]) | with_reducible rfl | assumption | omega | solve_by_elim [szL_get, szO_f, szO_d, szO_s])))
    | ((with_reducible refine tn ?_ ?_); assumption)
    | with_reducible refine tct ?_
    | with_reducible refine tcf ?_
    | with_reducible refine tcn ?_
    | with_reducible refine tcd ?_ ?_
    | with_reducible refine tce ?_ ?_
    | with_reducible refine tcne ?_ ?_
    | with_reducible refine tc ?_ ?_

set_option maxHeartbeats 4000000 in
theorem ref28_Lean_L0_c : ∀ {m : Nat} {bs1492 : List Bool} {bs1493 : List Bool} {n1494 : Int} {t1495 : Prog} {bs1496 : List Bool} {ns1497 : List Int} {H1 : (List Bool) → (List Int) → (ι → O) → O} (g0 : 0 ≤ n1494) (g1 : n1494 ≤ (((List.length t1495.1) : Nat) : Int)) (g2 : (((List.length t1495.1) : Nat) : Int) < n1494 + m) (g3 : t1495.1.length ≤ 1000000) (g4 : bs1496 = mapR (fun i => List.getD bs1492 i false) n1494) (g5 : ns1497 = mapR (lc t1495.1 bs1493) n1494) (g6 : (bs1496.length : Int) = n1494) (g7 : (ns1497.length : Int) = n1494)
    (h1 : ∀ (a0 : List Bool) (a1 : List Int), (a0 = mapR (fun i => List.getD bs1492 i false) (t1495.1.length : Int)) → (a1 = mapR (lc t1495.1 bs1493) (t1495.1.length : Int)) → T P (H1 a0 a1)),
    T P (fun K => ref28_Lean_L0 m bs1492 bs1493 n1494 t1495 bs1496 ns1497 (fun a0 a1 => H1 a0 a1 K)) := by
  intro m
  induction m with
  | zero => intros; omega
  | succ m ih =>
    intro bs1492 bs1493 n1494 t1495 bs1496 ns1497 H1 g0 g1 g2 g3 g4 g5 g6 g7 h1
    rw [ref28_Lean_L0]
    unfold ref28_Lean_L0.body
    have := wr64 ((n1494 + (1 : Int)))
    repeat' first
      | (intro q; try subst q)
      | ((with_reducible refine h1 _ _ ?_ ?_) <;> try (first | exact mapR_nil | exact mapR_step (by assumption) (by omega) (by omega) (by first | rfl | exact (getD_ge (by omega)).symm | (unfold lc; rw [show List.getD bs1493 (Int.toNat n1494) false = true from by assumption]; rfl) | (unfold lc; rw [show List.getD bs1493 (Int.toNat n1494) false = false from by first | assumption | exact getD_ge (by omega)]; rfl)) | (simp only [List.length_append, List.length_cons, List.length_nil] <;> omega) | (rw [show (t1495.1.length : Int) = n1494 from by omega]; assumption) | with_reducible rfl | assumption | omega | solve_by_elim [szL_get, szO_f, szO_d, szO_s]))
      | ((with_reducible refine tna ?_ ?_ ?_); omega; omega)
      | ((with_reducible refine tnb ?_ ?_); focus (first | omega | (first | exact mapR_nil | exact mapR_step (by assumption) (by omega) (by omega) (by first | rfl | exact (getD_ge (by omega)).symm | (unfold lc; rw [show List.getD bs1493 (Int.toNat n1494) false = true from by assumption]; rfl) | (unfold lc; rw [show List.getD bs1493 (Int.toNat n1494) false = false from by first | assumption | exact getD_ge (by omega)]; rfl)) | (simp only [List.length_append, List.length_cons, List.length_nil] <;> omega) | (rw [show (t1495.1.length : Int) = n1494 from by omega]; assumption) | with_reducible rfl | assumption | omega | solve_by_elim [szL_get, szO_f, szO_d, szO_s])))
      | ((with_reducible refine tn ?_ ?_); assumption)
      | with_reducible refine tct ?_
      | with_reducible refine tcf ?_
      | with_reducible refine tcn ?_
      | with_reducible refine tcd ?_ ?_
      | with_reducible refine tce ?_ ?_
      | with_reducible refine tcne ?_ ?_
      | with_reducible refine tc ?_ ?_
      | ((with_reducible refine ih ?_ ?_ ?_ ?_ ?_ ?_ ?_ ?_ h1) <;> try (first | exact mapR_nil | exact mapR_step (by assumption) (by omega) (by omega) (by first | rfl | exact (getD_ge (by omega)).symm | (unfold lc; rw [show List.getD bs1493 (Int.toNat n1494) false = true from by assumption]; rfl) | (unfold lc; rw [show List.getD bs1493 (Int.toNat n1494) false = false from by first | assumption | exact getD_ge (by omega)]; rfl)) | (simp only [List.length_append, List.length_cons, List.length_nil] <;> omega) | (rw [show (t1495.1.length : Int) = n1494 from by omega]; assumption) | with_reducible rfl | assumption | omega | solve_by_elim [szL_get, szO_f, szO_d, szO_s]))
      | ((with_reducible refine ref16_Frame_c ?_))
      | ((with_reducible refine ref28_Least_c ?_))

theorem ref28_Lean_c {t1489 : Prog} {bs1490 : List Bool} {bs1491 : List Bool} {H1 : (List Bool) → (List Int) → (ι → O) → O} (g0 : t1489.1.length ≤ 1000000)
    (h1 : ∀ (a0 : List Bool) (a1 : List Int), (a0 = mapR (fun i => List.getD bs1490 i false) (t1489.1.length : Int)) → (a1 = mapR (lc t1489.1 bs1491) (t1489.1.length : Int)) → T P (H1 a0 a1)) :
    T P (fun K => ref28_Lean t1489 bs1490 bs1491 (fun a0 a1 => H1 a0 a1 K)) := by
  unfold ref28_Lean ref28_Lean.body
  have := rb
  repeat' first
    | (intro q; try subst q)
    | ((with_reducible refine h1 _ _ ?_ ?_) <;> try (first | exact mapR_nil | exact List.length_nil ▸ rfl | with_reducible rfl | assumption | omega | solve_by_elim [szL_get, szO_f, szO_d, szO_s]))
    | ((with_reducible refine tna ?_ ?_ ?_); omega; omega)
    | ((with_reducible refine tnb ?_ ?_); focus (first | omega | (first | exact mapR_nil | exact List.length_nil ▸ rfl | with_reducible rfl | assumption | omega | solve_by_elim [szL_get, szO_f, szO_d, szO_s])))
    | ((with_reducible refine tn ?_ ?_); assumption)
    | with_reducible refine tct ?_
    | with_reducible refine tcf ?_
    | with_reducible refine tcn ?_
    | with_reducible refine tcd ?_ ?_
    | with_reducible refine tce ?_ ?_
    | with_reducible refine tcne ?_ ?_
    | with_reducible refine tc ?_ ?_
    | ((with_reducible refine ref28_Lean_L0_c ?_ ?_ ?_ ?_ ?_ ?_ ?_ ?_ ?_) <;> try (first | exact mapR_nil | exact List.length_nil ▸ rfl | with_reducible rfl | assumption | omega | solve_by_elim [szL_get, szO_f, szO_d, szO_s]))

theorem prologue_Size_c {p : Prog} {plan : Plan} {i : Int} {H1 : Int → (ι → O) → O} (h1 : ∀ n, n = sizeV p plan i → T P (H1 n)) : T P (fun K => prologue_Size p plan i (fun a => H1 a K)) := by
  unfold prologue_Size prologue_Size.body
  refine tcn (tcd (fun h => h1 _ (by unfold sizeV; rw [if_neg (by omega)])) (fun h => prologue_has_c (fun b e1 e2 => tcn (tc (fun hb => ?_) (fun hb => ?_)))))
  · have h0 : 0 ≤ i := by
      by_cases h0 : 0 ≤ i
      · exact h0
      · rw [e2 (by omega)] at hb; cases hb
    rw [e1 h0] at hb
    refine tna (by omega) (by omega) (tcd (fun h2 => tna (by omega) (by omega) (tcne (fun h3 => h1 _ ?_) (fun h3 => h1 _ ?_))) (fun h2 => h1 _ ?_))
    · unfold sizeV; rw [if_pos ⟨h0, by omega, hb⟩, if_pos h3]
    · unfold sizeV; rw [if_pos ⟨h0, by omega, hb⟩, if_neg (fun h => h h3)]
    · unfold sizeV; rw [if_pos ⟨h0, by omega, hb⟩, if_neg (fun h => h (getD_ge (by omega)))]
  · refine h1 _ ?_
    unfold sizeV
    rw [if_neg (fun h => ?_)]
    rw [e1 h.1, h.2.2] at hb
    cases hb

theorem ref28_Kept_c {p : Prog} {plan : Plan} {i : Int} {H1 : Bool → (ι → O) → O} (h1 : ∀ b, (b = true ↔ 0 ≤ i ∧ i < (p.1.length : Int) ∧ plan.1.getD i.toNat false = true) → T P (H1 b)) : T P (fun K => ref28_Kept p plan i (fun a => H1 a K)) := by
  unfold ref28_Kept ref28_Kept.body
  refine tcd (fun h => tcd (fun h2 => tcd (fun h3 => tna (by omega) (by omega) (h1 _ ⟨fun h4 => ⟨h, h2, h4⟩, fun h4 => h4.2.2⟩)) (fun h3 => h1 _ ⟨fun h4 => (nomatch h4), fun h4 => ?_⟩)) (fun h2 => h1 _ ⟨fun h4 => (nomatch h4), fun h4 => by omega⟩)) (fun h2 => h1 _ ⟨fun h4 => (nomatch h4), fun h4 => by omega⟩)
  have := h4.2.2
  rw [getD_ge (by omega)] at this
  exact this

theorem ref28_Check_c {plan : Plan} {i : Int} {H1 : Int → (ι → O) → O} (h0 : 0 ≤ i) (h1 : T P (H1 (plan.2.1.getD i.toNat 0))) : T P (fun K => ref28_Check plan i (fun a => H1 a K)) := by
  unfold ref28_Check ref28_Check.body
  refine tcn (tcd (fun h => by omega) (fun h => tcd (fun h2 => ?_) (fun h2 => tna (by omega) (by omega) h1)))
  rw [getD_ge (by omega)] at h1
  exact h1

theorem ref28_Size_c {p : Prog} {plan : Plan} {i : Int} {H1 : Int → (ι → O) → O} (h1 : ∀ n, n = sizeV p plan i → T P (H1 n)) : T P (fun K => ref28_Size p plan i (fun a => H1 a K)) := by
  unfold ref28_Size ref28_Size.body
  refine ref28_Kept_c (fun b e => tcn (tc (fun hb => ?_) (fun hb => h1 _ ?_)))
  · have hk := e.1 hb
    refine tna (by omega) (by omega) (ref28_Check_c hk.1 (tcne (fun h3 => h1 _ ?_) (fun h3 => h1 _ ?_)))
    · unfold sizeV; rw [if_pos hk, if_pos h3]
    · unfold sizeV; rw [if_pos hk, if_neg (fun h => h h3)]
  · unfold sizeV
    rw [if_neg (fun h => ?_)]
    rw [e.2 h] at hb
    cases hb

theorem known_c {H1 : Bool → (ι → O) → O} (h : T P (H1 true)) : T P (fun K => law28_known (fun b => H1 b K)) := h.eq fun K => rfl
theorem law28_ProloguePlans_c {ts1471 : List Obj} {bs1472 : List Bool} {bs1473 : List Bool} {t1474 : Plan} {n1475 : Int} {H1 : Bool → (ι → O) → O} (g0 : okLs ts1471)
    (h1 : ∀ (a0 : Bool), (a0 = true) → T P (H1 a0)) :
    T P (fun K => law28_ProloguePlans ts1471 bs1472 bs1473 t1474 n1475 (fun a0 => H1 a0 K)) := by
  unfold law28_ProloguePlans law28_ProloguePlans.body
  repeat' first
    | (intro q; try subst q)
    | (with_reducible refine known_c ?_)
    | ((with_reducible refine h1 _ ?_) <;> try (first | (intro h; contradiction) | contradiction | exact mapR_le (by assumption) | decide | with_reducible rfl | assumption | omega | solve_by_elim [szL_get, szO_f, szO_d, szO_s]))
    | ((with_reducible refine tna ?_ ?_ ?_); omega; omega)
    | ((with_reducible refine tnb ?_ ?_); focus (first | omega | (first | (intro h; contradiction) | contradiction | exact mapR_le (by assumption) | decide | with_reducible rfl | assumption | omega | solve_by_elim [szL_get, szO_f, szO_d, szO_s])))
    | ((with_reducible refine tn ?_ ?_); assumption)
    | with_reducible refine tct ?_
    | with_reducible refine tcf ?_
    | with_reducible refine tcn ?_
    | with_reducible refine tcd ?_ ?_
    | with_reducible refine tce ?_ ?_
    | with_reducible refine tcne ?_ ?_
    | with_reducible refine tc ?_ ?_
    | ((with_reducible refine ref24_Few_c ?_ ?_) <;> try (first | (intro h; contradiction) | contradiction | exact mapR_le (by assumption) | decide | with_reducible rfl | assumption | omega | solve_by_elim [szL_get, szO_f, szO_d, szO_s]))
    | ((with_reducible refine ref24_Bind_c ?_ ?_ ?_) <;> try (first | (intro h; contradiction) | contradiction | exact mapR_le (by assumption) | decide | with_reducible rfl | assumption | omega | solve_by_elim [szL_get, szO_f, szO_d, szO_s]))
    | ((with_reducible refine ref25_Few_c ?_ ?_ ?_) <;> try (first | (intro h; contradiction) | contradiction | exact mapR_le (by assumption) | decide | with_reducible rfl | assumption | omega | solve_by_elim [szL_get, szO_f, szO_d, szO_s]))
    | ((with_reducible refine prologue_Full_c ?_ ?_) <;> try (first | (intro h; contradiction) | contradiction | exact mapR_le (by assumption) | decide | with_reducible rfl | assumption | omega | solve_by_elim [szL_get, szO_f, szO_d, szO_s]))
    | ((with_reducible refine ref28_Full_c ?_ ?_) <;> try (first | (intro h; contradiction) | contradiction | exact mapR_le (by assumption) | decide | with_reducible rfl | assumption | omega | solve_by_elim [szL_get, szO_f, szO_d, szO_s]))
    | ((with_reducible refine ref28_Same_c ?_ ?_ ?_ ?_ ?_) <;> try (first | (intro h; contradiction) | contradiction | exact mapR_le (by assumption) | decide | with_reducible rfl | assumption | omega | solve_by_elim [szL_get, szO_f, szO_d, szO_s]))
    | ((with_reducible refine prologue_Lean_c ?_ ?_) <;> try (first | (intro h; contradiction) | contradiction | exact mapR_le (by assumption) | decide | with_reducible rfl | assumption | omega | solve_by_elim [szL_get, szO_f, szO_d, szO_s]))
    | ((with_reducible refine ref28_Lean_c ?_ ?_) <;> try (first | (intro h; contradiction) | contradiction | exact mapR_le (by assumption) | decide | with_reducible rfl | assumption | omega | solve_by_elim [szL_get, szO_f, szO_d, szO_s]))
    | ((with_reducible refine prologue_Size_c ?_))
    | ((with_reducible refine ref28_Size_c ?_))

theorem okLs_of {l : List Obj} (h : okD (.sl 56 Ty21) l) : okLs l := by
  have h' := okD_sl.1 h
  refine ⟨h'.1, fun o ho => ?_⟩
  have a := okDs_cons.1 (okD_st.1 (h'.2 o ho))
  have b := okDs_cons.1 a.2
  have c := okDs_cons.1 b.2
  exact ⟨(okD_sl.1 a.1).1, (okD_sl.1 b.1).1, (okD_sl.1 c.1).1⟩
theorem holds (l : List Obj) (kept free : List Bool) (plan : Plan) (i : Int) (h0 : okD (.sl 56 Ty21) l) (h1 : okD Ty0 kept) (h2 : okD Ty0 free) (h3 : okD Ty6 plan) (h4 : okD (.int .i64) i) : law28_ProloguePlans l kept free plan i (fun y => some y) = some true :=
  (law28_ProloguePlans_c (ι := Bool) (P := fun b => b = true) (H1 := fun a K => K a) (okLs_of h0) (fun a h => T.leaf h)).use (K := fun y => some y) (fun i hi => congrArg some hi)

end Go.Proofs.Ytdbfpplnenocjaa.prologuePlans
