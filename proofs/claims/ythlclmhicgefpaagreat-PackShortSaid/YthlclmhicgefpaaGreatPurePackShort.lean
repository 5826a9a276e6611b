/- What the plain functions answer: the law, without program or memory. -/
import Derived.Test.YthlclmhicgefpaaGreatPurePackShort1
namespace Go.Proofs.YthlclmhicgefpaaGreat.packShort
open Go.AX Go.Proofs.YthlclmhicgefpaaGreat.s
set_option linter.unusedVariables false
set_option linter.unusedSimpArgs false
attribute [local congr] cond_congr
variable {ι : Type} {P : ι → Prop}
attribute [local irreducible] ROUNDS Y0 Y1 Y2 Y3 Y4 Y5 Y6 Y7 Y8 Y9 Ya Yb Yc Yd Ye Yf Yg Yh Yi Yj Yk Yl Ym Yn Yo Yp Yq Yr Ys Yt Yu Yv Yw Yx Yy Yz Y10 Y11 Y12 Y13 Y14 Y15 Y16 Y17 Y18 Y19 Y1a Y1b Y1c Y1d Y1e Y1f Y1g Y1h Y1i Y1j Y1k Y1l Y1m Y1n Y1o Y1p Y1q Y1r Y1s Y1t Y1u Y1v Y1w Y1x Y1y Y1z Y20 Y21 Y22 Y23 Y24 Y25 Y26 Y27 Y28 Y29 Y2a Y2b Y2c Y2d Y2e Y2f Y2g Y2h Y2i Y2j Y2k Y2l Y2m Y2n Y2o Y2p Y2q Y2r Y2s Y2t Y2u Y2v Y2w Y2x Y2y Y2z Y30 Y31 Y32 Y33 Y34 Y35 Y36 Y3m Y3n Y3o Y3w Y3x Y41 Y42 Y6s Y6t Y6u Y6v Y6w Y6x Y6y Y6z Y70 Y71 Y72 Y73 Y74 Y75 Y76 Y7b Y7c Y7d Y7e Y7f Y7g Y7h Y7i Y7j Y7k Y7l
theorem Y2d_c {t0 : Sym} {H1 : Bool → (ι → O) → O}
  (h1 : ∀ (a0 : Bool), T P (H1 a0)) :
  T P (fun K => Y2d t0 (fun a0 => H1 a0 K)) := by
 unfold Y2d Y2d.body
 repeat' first
  | (intro q; try subst q)
  | (with_reducible first | refine h1 _ | refine tct ?_ | refine tcf ?_ | refine tcn ?_ | refine tcne ?_ ?_ | refine tc ?_ ?_)
theorem Y2e_c : ∀ {m : Nat} {t0 : List Obj} {s1 : ByteArray} {n2 : Int} {n3 : Int} {H1 : Int → Int → Bool → (ι → O) → O} {H2 : (List Obj) → ByteArray → Int → (ι → O) → O} (g0 : szL t0) (g1 : s1.size ≤ 100000) (g2 : 0 ≤ n3) (g3 : n3 ≤ (((List.length (List.getD t0 (Int.toNat n2) ([], ([], ([], ())))).1) : Nat) : Int)) (g4 : (((List.length (List.getD t0 (Int.toNat n2) ([], ([], ([], ())))).1) : Nat) : Int) < n3 + m) (g5 : 0 ≤ n2) (g6 : n2 < (t0.length : Int))
  (h1 : ∀ (a0 : Int) (a1 : Int) (a2 : Bool), n2 = a0 → (valid t0 a0 a1) → T P (H1 a0 a1 a2))
  (h2 : ∀ (a0 : List Obj) (a1 : ByteArray) (a2 : Int), t0 = a0 → s1 = a1 → n2 = a2 → T P (H2 a0 a1 a2)),
  T P (fun K => Y2e m t0 s1 n2 n3 (fun a0 a1 a2 => H1 a0 a1 a2 K) (fun a0 a1 a2 => H2 a0 a1 a2 K)) := by
 intro m
 induction m with
 | zero => intros; omega
 | succ m ih =>
  intro t0 s1 n2 n3 H1 H2 g0 g1 g2 g3 g4 g5 g6 h1 h2
  rw [Y2e]
  unfold Y2e.body
  have z0_n646 := szL_get (i := Int.toNat n2) g0
  obtain ⟨_, _, _, _, _, _⟩ := z0_n646
  have z0 := szL_len g0
  have := wr64 ((n3 + (1 : Int)))
  repeat' first
   | (intro q; try subst q)
   | ((with_reducible first | refine h1 _ _ _ ?_ ?_ | refine h2 _ _ _ ?_ ?_ ?_ | refine ih ?_ ?_ ?_ ?_ ?_ ?_ ?_ h1 h2) <;> try (first | (exact ⟨by omega, by omega, by omega, by omega⟩) | with_reducible rfl | assumption | omega | solve_by_elim [szL_get, szO_f, szO_d, szO_s]))
   | ((with_reducible refine tna ?_ ?_ ?_); omega; omega)
   | ((with_reducible refine tn ?_ ?_); assumption)
   | (with_reducible first | refine Y2d_c ?_ | refine tct ?_ | refine tcf ?_ | refine tcd ?_ ?_ | refine tce ?_ ?_ | refine tc ?_ ?_)
theorem Y2f_c : ∀ {m : Nat} {t0 : List Obj} {s1 : ByteArray} {n2 : Int} {H1 : Int → Int → Bool → (ι → O) → O} {H2 : (ι → O) → O} (g0 : szL t0) (g1 : s1.size ≤ 100000) (g2 : 0 ≤ n2) (g3 : n2 ≤ (((List.length t0) : Nat) : Int)) (g4 : (((List.length t0) : Nat) : Int) < n2 + m)
  (h1 : ∀ (a0 : Int) (a1 : Int) (a2 : Bool), (valid t0 a0 a1) → T P (H1 a0 a1 a2))
  (h2 : T P H2),
  T P (fun K => Y2f m t0 s1 n2 (fun a0 a1 a2 => H1 a0 a1 a2 K) (H2 K)) := by
 intro m
 induction m with
 | zero => intros; omega
 | succ m ih =>
  intro t0 s1 n2 H1 H2 g0 g1 g2 g3 g4 h1 h2
  rw [Y2f]
  unfold Y2f.body
  have z0 := szL_len g0
  have := wr64 ((n2 + (1 : Int)))
  have := rb
  have hz := szL_get (i := Int.toNat n2) g0
  obtain ⟨_, _, _, _, _, _⟩ := hz
  repeat' first
   | (intro q; try subst q)
   | ((with_reducible first | refine h1 _ _ _ ?_ | refine ih ?_ ?_ ?_ ?_ ?_ h1 h2 | refine Y2e_c ?_ ?_ ?_ ?_ ?_ ?_ ?_ ?_ ?_) <;> try (first | with_reducible rfl | assumption | omega | solve_by_elim [szL_get, szO_f, szO_d, szO_s]))
   | (with_reducible first | refine h2 | refine tct ?_ | refine tcf ?_ | refine tcd ?_ ?_ | refine tc ?_ ?_)
theorem Y2g_c {t0 : List Obj} {s1 : ByteArray} {H1 : Int → Int → Bool → (ι → O) → O} (g0 : szL t0) (g1 : s1.size ≤ 100000)
  (h1 : ∀ (a0 : Int) (a1 : Int) (a2 : Bool), (a2 = true → valid t0 a0 a1) → T P (H1 a0 a1 a2)) :
  T P (fun K => Y2g t0 s1 (fun a0 a1 a2 => H1 a0 a1 a2 K)) := by
 unfold Y2g Y2g.body
 have z0 := szL_len g0
 have := rb
 repeat' first
  | (intro q; try subst q)
  | ((with_reducible first | refine h1 _ _ _ ?_ | refine Y2f_c ?_ ?_ ?_ ?_ ?_ ?_ ?_) <;> try (first | (intro _; assumption) | (intro hq; contradiction) | with_reducible rfl | assumption | omega | solve_by_elim [szL_get, szO_f, szO_d, szO_s]))
  | (with_reducible first | refine tct ?_ | refine tcf ?_ | refine tc ?_ ?_)
theorem Y2h_c : ∀ {m : Nat} {t0 : List Obj} {n1 : Int} {n2 : Int} {t3 : Int × Int × Int × Unit} {H1 : Bool → (Int × Int × Int × Unit) → (ι → O) → O} {H2 : (List Obj) → Int → (Int × Int × Int × Unit) → (ι → O) → O} (g0 : szL t0) (g1 : 0 ≤ n2) (g2 : n2 ≤ (((List.length (List.getD t0 (Int.toNat n1) ([], ([], ([], ())))).1) : Nat) : Int)) (g3 : (((List.length (List.getD t0 (Int.toNat n1) ([], ([], ([], ())))).1) : Nat) : Int) < n2 + m) (g4 : 0 ≤ n1) (g5 : n1 < (t0.length : Int))
  (h1 : ∀ (a0 : Bool) (a1 : Int × Int × Int × Unit), (a1.1 ≠ 0) → T P (H1 a0 a1))
  (h2 : ∀ (a0 : List Obj) (a1 : Int) (a2 : Int × Int × Int × Unit), t0 = a0 → n1 = a1 → t3 = a2 → T P (H2 a0 a1 a2)),
  T P (fun K => Y2h m t0 n1 n2 t3 (fun a0 a1 => H1 a0 a1 K) (fun a0 a1 a2 => H2 a0 a1 a2 K)) := by
 intro m
 induction m with
 | zero => intros; omega
 | succ m ih =>
  intro t0 n1 n2 t3 H1 H2 g0 g1 g2 g3 g4 g5 h1 h2
  rw [Y2h]
  unfold Y2h.body
  have z0_n636 := szL_get (i := Int.toNat n1) g0
  obtain ⟨_, _, _, _, _, _⟩ := z0_n636
  have z0 := szL_len g0
  have := wr64 ((n2 + (1 : Int)))
  repeat' first
   | (intro q; try subst q)
   | ((with_reducible first | refine h1 _ _ ?_ | refine h2 _ _ _ ?_ ?_ ?_ | refine ih ?_ ?_ ?_ ?_ ?_ ?_ h1 h2 | refine Y2g_c ?_ ?_ ?_) <;> try (first | (simp; done) | with_reducible rfl | assumption | omega | solve_by_elim [szL_get, szO_f, szO_d, szO_s]))
   | ((with_reducible refine tna ?_ ?_ ?_); omega; omega)
   | ((with_reducible refine tn ?_ ?_); assumption)
   | (with_reducible first | refine Y2d_c ?_ | refine tct ?_ | refine tcf ?_ | refine tcn ?_ | refine tcd ?_ ?_ | refine tcne ?_ ?_ | refine tc ?_ ?_)
theorem Y2i_c : ∀ {m : Nat} {t0 : List Obj} {n1 : Int} {t2 : Int × Int × Int × Unit} {H1 : Bool → (Int × Int × Int × Unit) → (ι → O) → O} {H2 : (Int × Int × Int × Unit) → (ι → O) → O} (g0 : szL t0) (g1 : 0 ≤ n1) (g2 : n1 ≤ (((List.length t0) : Nat) : Int)) (g3 : (((List.length t0) : Nat) : Int) < n1 + m)
  (h1 : ∀ (a0 : Bool) (a1 : Int × Int × Int × Unit), (a1.1 ≠ 0) → T P (H1 a0 a1))
  (h2 : ∀ (a0 : Int × Int × Int × Unit), t2 = a0 → T P (H2 a0)),
  T P (fun K => Y2i m t0 n1 t2 (fun a0 a1 => H1 a0 a1 K) (fun a0 => H2 a0 K)) := by
 intro m
 induction m with
 | zero => intros; omega
 | succ m ih =>
  intro t0 n1 t2 H1 H2 g0 g1 g2 g3 h1 h2
  rw [Y2i]
  unfold Y2i.body
  have z0 := szL_len g0
  have := wr64 ((n1 + (1 : Int)))
  have := rb
  have hz := szL_get (i := Int.toNat n1) g0
  obtain ⟨_, _, _, _, _, _⟩ := hz
  repeat' first
   | (intro q; try subst q)
   | ((with_reducible first | refine h1 _ _ ?_ | refine h2 _ ?_ | refine ih ?_ ?_ ?_ ?_ h1 h2 | refine Y2h_c ?_ ?_ ?_ ?_ ?_ ?_ ?_ ?_) <;> try (first | with_reducible rfl | assumption | omega | solve_by_elim [szL_get, szO_f, szO_d, szO_s]))
   | (with_reducible first | refine tct ?_ | refine tcf ?_ | refine tcd ?_ ?_ | refine tc ?_ ?_)
theorem Y2j_c {t0 : List Obj} {H1 : (Int × Int × Int × Unit) → Bool → (ι → O) → O} (g0 : szL t0)
  (h1 : ∀ (a0 : Int × Int × Int × Unit) (a1 : Bool), (a1 = true → a0.1 ≠ 0) → T P (H1 a0 a1)) :
  T P (fun K => Y2j t0 (fun a0 a1 => H1 a0 a1 K)) := by
 unfold Y2j Y2j.body
 have z0 := szL_len g0
 have := rb
 repeat' first
  | (intro q; try subst q)
  | ((with_reducible first | refine h1 _ _ ?_ | refine Y2i_c ?_ ?_ ?_ ?_ ?_ ?_) <;> try (first | (intro _; assumption) | (intro hq; contradiction) | with_reducible rfl | assumption | omega | solve_by_elim [szL_get, szO_f, szO_d, szO_s]))
  | (with_reducible first | refine tct ?_ | refine tcf ?_ | refine tc ?_ ?_)
theorem Y2k_c {ts : List Obj} {i j : Int} {H1 : Int → Int → Int → (ι → O) → O} (hL : szL ts) (h1 : ∀ a b, valid ts a b → T P (H1 a b 0)) (h0 : ∀ e : Int, e ≠ 0 → T P (H1 0 0 e)) : T P (fun K => Y2k ts i j (fun a b c => H1 a b c K)) := by
 unfold Y2k Y2k.body
 refine tcn (tcd (fun _ => h0 _ (by decide)) (fun hi => ?_))
 refine tcn (tcd (fun _ => h0 _ (by decide)) (fun hi2 => ?_))
 refine tcn (tcd (fun _ => h0 _ (by decide)) (fun hj => ?_))
 refine tna (by omega) (by omega) ?_
 refine tcd (fun _ => h0 _ (by decide)) (fun hj2 => ?_)
 refine tna (by omega) (by omega) (tna (by omega) (by omega) ?_)
 refine tcne (fun _ => h1 _ _ ⟨by omega, by omega, by omega, by omega⟩) (fun _ => ?_)
 refine Y2g_c hL (szO_s (szL_get hL)) (fun a b c hv => tcn (tc (fun hc => ?_) (fun _ => h0 _ (by decide))))
 obtain ⟨v1, v2, v3, v4⟩ := hv hc
 exact tna (by omega) (by omega) (tna (by omega) (by omega) (tcn (tcne (fun _ => h0 _ (by decide)) (fun _ => tcne (fun _ => h0 _ (by decide)) (fun _ => h1 _ _ ⟨v1, v2, v3, v4⟩)))))
theorem Bound_d {ts : List Obj} {i j : Int} {H1 : Int → Int → Int → (ι → O) → O} (hL : szL ts) (h1 : ∀ a b, valid ts a b → BoundOk ts i j → T P (H1 a b 0)) (h0 : ∀ e : Int, e ≠ 0 → T P (H1 0 0 e)) : T P (fun K => Y2k ts i j (fun a b c => H1 a b c K)) := by
 obtain ⟨⟨a, b, c⟩, hp, e⟩ := Y2k_c (ι := Int × Int × Int) (P := fun x => (x.2.2 = 0 ∧ valid ts x.1 x.2.1) ∨ (x.1 = 0 ∧ x.2.1 = 0 ∧ x.2.2 ≠ 0)) (i := i) (j := j) (H1 := fun a b c K => K (a, b, c)) hL (fun a b hv => T.leaf (.inl ⟨rfl, hv⟩)) (fun e he => T.leaf (.inr ⟨rfl, rfl, he⟩))
 have e' : ∀ K : Int → Int → Int → O, Y2k ts i j K = K a b c := fun K => e (fun x => K x.1 x.2.1 x.2.2)
 rcases hp with ⟨rfl, hv⟩ | ⟨h2, h3, h4⟩
 ·exact (h1 a b hv ⟨a, b, hv, e'⟩).eq (fun K => e' _)
 ·simp only at h2 h3 h4
  subst h2; subst h3
  exact (h0 c h4).eq (fun K => e' _)
theorem Y2l_c : ∀ {m : Nat} {t0 : List Obj} {n1 : Int} {n2 : Int} {t3 : Int × Int × Int × Unit} {H1 : (Int × Int × Int × Unit) → (ι → O) → O} {H2 : (List Obj) → Int → (Int × Int × Int × Unit) → (ι → O) → O} (g0 : szL t0) (g1 : 0 ≤ n2) (g2 : n2 ≤ (((List.length (List.getD t0 (Int.toNat n1) ([], ([], ([], ())))).1) : Nat) : Int)) (g3 : (((List.length (List.getD t0 (Int.toNat n1) ([], ([], ([], ())))).1) : Nat) : Int) < n2 + m) (g4 : 0 ≤ n1) (g5 : n1 < (t0.length : Int)) (g6 : ∀ j : Int, 0 ≤ j → j < n2 → BoundOk t0 n1 j)
  (h1 : ∀ (a0 : Int × Int × Int × Unit), (a0.1 ≠ 0) → T P (H1 a0))
  (h2 : ∀ (a0 : List Obj) (a1 : Int) (a2 : Int × Int × Int × Unit), t0 = a0 → n1 = a1 → t3 = a2 → (fileOk t0 n1) → T P (H2 a0 a1 a2)),
  T P (fun K => Y2l m t0 n1 n2 t3 (fun a0 => H1 a0 K) (fun a0 a1 a2 => H2 a0 a1 a2 K)) := by
 intro m
 induction m with
 | zero => intros; omega
 | succ m ih =>
  intro t0 n1 n2 t3 H1 H2 g0 g1 g2 g3 g4 g5 g6 h1 h2
  rw [Y2l]
  unfold Y2l.body
  have z0_n677 := szL_get (i := Int.toNat n1) g0
  obtain ⟨_, _, _, _, _, _⟩ := z0_n677
  have z0 := szL_len g0
  have := wr64 ((n2 + (1 : Int)))
  repeat' first
   | (intro q; try subst q)
   | ((with_reducible first | refine h1 _ ?_ | refine h2 _ _ _ ?_ ?_ ?_ ?_ | refine ih ?_ ?_ ?_ ?_ ?_ ?_ ?_ h1 h2 | refine Bound_d ?_ ?_ ?_) <;> try (first | (intro j hj1 hj2; first | exact g6 j hj1 (by omega) | (by_cases hj : j < n2; exact g6 j hj1 hj; obtain rfl : j = n2 := (by omega); first | assumption | omega)) | contradiction | with_reducible rfl | assumption | omega | solve_by_elim [szL_get, szO_f, szO_d, szO_s]))
   | ((with_reducible refine tna ?_ ?_ ?_); omega; omega)
   | ((with_reducible refine tn ?_ ?_); assumption)
   | (with_reducible first | refine tct ?_ | refine tcf ?_ | refine tcd ?_ ?_ | refine tcne ?_ ?_ | refine tc ?_ ?_)
theorem Y2m_c : ∀ {m : Nat} {t0 : List Obj} {n1 : Int} {t2 : Int × Int × Int × Unit} {H1 : (Int × Int × Int × Unit) → (ι → O) → O} {H2 : (Int × Int × Int × Unit) → (ι → O) → O} (g0 : szL t0) (g1 : 0 ≤ n1) (g2 : n1 ≤ (((List.length t0) : Nat) : Int)) (g3 : (((List.length t0) : Nat) : Int) < n1 + m) (g4 : ∀ j : Int, 0 ≤ j → j < n1 → fileOk t0 j)
  (h1 : ∀ (a0 : Int × Int × Int × Unit), (a0.1 ≠ 0) → T P (H1 a0))
  (h2 : ∀ (a0 : Int × Int × Int × Unit), t2 = a0 → (allOk t0) → T P (H2 a0)),
  T P (fun K => Y2m m t0 n1 t2 (fun a0 => H1 a0 K) (fun a0 => H2 a0 K)) := by
 intro m
 induction m with
 | zero => intros; omega
 | succ m ih =>
  intro t0 n1 t2 H1 H2 g0 g1 g2 g3 g4 h1 h2
  rw [Y2m]
  unfold Y2m.body
  have z0 := szL_len g0
  have := wr64 ((n1 + (1 : Int)))
  have := rb
  have hz := szL_get (i := Int.toNat n1) g0
  obtain ⟨_, _, _, _, _, _⟩ := hz
  repeat' first
   | (intro q; try subst q)
   | ((with_reducible first | refine h1 _ ?_ | refine h2 _ ?_ ?_ | refine ih ?_ ?_ ?_ ?_ ?_ h1 h2 | refine Y2l_c ?_ ?_ ?_ ?_ ?_ ?_ ?_ ?_ ?_) <;> try (first | exact stepJ (by assumption) (by assumption) (by omega) | (intro j hj1 hj2; first | exact g4 j hj1 (by omega) | (exfalso; omega)) | with_reducible rfl | assumption | omega | solve_by_elim [szL_get, szO_f, szO_d, szO_s]))
   | (with_reducible first | refine tct ?_ | refine tcf ?_ | refine tcd ?_ ?_ | refine tc ?_ ?_)
theorem Y2n_c {t0 : List Obj} {H1 : (Int × Int × Int × Unit) → (ι → O) → O} (g0 : szL t0)
  (h1 : ∀ (a0 : Int × Int × Int × Unit), (a0.1 = 0 → allOk t0) → T P (H1 a0)) :
  T P (fun K => Y2n t0 (fun a0 => H1 a0 K)) := by
 unfold Y2n Y2n.body
 have z0 := szL_len g0
 have := rb
 repeat' first
  | (intro q; try subst q)
  | ((with_reducible first | refine h1 _ ?_ | refine Y2j_c ?_ ?_ | refine Y2m_c ?_ ?_ ?_ ?_ ?_ ?_ ?_) <;> try (first | (intro h; simp at h; done) | (intro h; exact absurd h (by assumption)) | (intro _; assumption) | (intro j hj1 hj2; first | assumption | (exfalso; omega)) | (intro h; exact absurd h ((by assumption : true = true → _) rfl)) | with_reducible rfl | assumption | omega | solve_by_elim [szL_get, szO_f, szO_d, szO_s]))
  | (with_reducible first | refine tct ?_ | refine tcf ?_ | refine tcn ?_ | refine tcd ?_ ?_ | refine tce ?_ ?_ | refine tc ?_ ?_)
theorem Y2o_c : ∀ {m : Nat} {t0 : List Obj} {n1 : Int} {n2 : Int} {n3 : Int} {n4 : Int} {n5 : Int} {t6 : List Fun_} {t7 : List Dat_} {l8 : List Sym} {l9 : List Func} {la : List Data} {nb : List Int} {H1 : (List Obj) → Int → Int → Int → Int → (List Fun_) → (List Dat_) → (List Sym) → (List Func) → (List Data) → (List Int) → (ι → O) → O} (g0 : szL t0) (g1 : 0 ≤ n3) (g2 : n3 ≤ (((List.length (List.getD l9 (Int.toNat n2) ZFunc).2.2.2.2.2.2.2.1) : Nat) : Int)) (g3 : (((List.length (List.getD l9 (Int.toNat n2) ZFunc).2.2.2.2.2.2.2.1) : Nat) : Int) < n3 + m) (g4 : szO (l8, (l9, (la, ())))) (g5 : 0 ≤ n2) (g6 : n2 < (l9.length : Int)) (g7 : funOk (List.getD l9 (Int.toNat n2) ZFunc) l8.length) (g8 : (nb.length : Int) ≤ n3) (g9 : inN nb l8.length)
  (h1 : ∀ (a0 : List Obj) (a1 : Int) (a2 : Int) (a3 : Int) (a4 : Int) (a5 : List Fun_) (a6 : List Dat_) (a7 : List Sym) (a8 : List Func) (a9 : List Data) (a10 : List Int), t0 = a0 → n1 = a1 → n2 = a2 → n4 = a3 → n5 = a4 → t6 = a5 → t7 = a6 → l8 = a7 → l9 = a8 → la = a9 → (inN a10 l8.length) → (a10.length ≤ 1000000) → T P (H1 a0 a1 a2 a3 a4 a5 a6 a7 a8 a9 a10)),
  T P (fun K => Y2o m t0 n1 n2 n3 n4 n5 t6 t7 l8 l9 la nb (fun a0 a1 a2 a3 a4 a5 a6 a7 a8 a9 a10 => H1 a0 a1 a2 a3 a4 a5 a6 a7 a8 a9 a10 K)) := by
 intro m
 induction m with
 | zero => intros; omega
 | succ m ih =>
  intro t0 n1 n2 n3 n4 n5 t6 t7 l8 l9 la nb H1 g0 g1 g2 g3 g4 g5 g6 g7 g8 g9 h1
  rw [Y2o]
  unfold Y2o.body
  have z0 := szL_len g0
  have z4 := g4
  obtain ⟨_, _, _, _, _, _⟩ := z4
  have := wr64 ((n3 + (1 : Int)))
  have hz : szF (List.getD l9 (Int.toNat n2) ZFunc) := szO_f g4
  have hz2 := hz
  obtain ⟨_, _, _, _⟩ := hz2
  repeat' first
   | (intro q; try subst q)
   | ((with_reducible first | refine h1 _ _ _ _ _ _ _ _ _ _ _ ?_ ?_ ?_ ?_ ?_ ?_ ?_ ?_ ?_ ?_ ?_ ?_ | refine ih ?_ ?_ ?_ ?_ ?_ ?_ ?_ ?_ ?_ ?_ h1 | refine Y1h_c ?_ ?_) <;> try (first | (exact inN_app (by assumption) (fun _ => g7 _ (by omega) (by omega))) | (simp only [List.length_append, List.length_cons, List.length_nil] <;> omega) | with_reducible rfl | assumption | omega | solve_by_elim [szL_get, szO_f, szO_d, szO_s]))
   | ((with_reducible refine tna ?_ ?_ ?_); omega; omega)
   | ((with_reducible refine tnb ?_ ?_); focus (first | omega | (first | (exact inN_app (by assumption) (fun _ => g7 _ (by omega) (by omega))) | (simp only [List.length_append, List.length_cons, List.length_nil] <;> omega) | with_reducible rfl | assumption | omega | solve_by_elim [szL_get, szO_f, szO_d, szO_s])))
   | ((with_reducible refine tn ?_ ?_); assumption)
   | (with_reducible first | refine tct ?_ | refine tcf ?_ | refine tcd ?_ ?_ | refine tc ?_ ?_)
theorem Y2p_c {o : Obj} {i : Int} {H1 : ByteArray → (ι → O) → O} (hd : DefOk o i) (h1 : ∀ s : ByteArray, T P (H1 s)) : T P (fun K => Y2p o i (fun a => H1 a K)) := by
 obtain ⟨n, p1, p2, e⟩ := hd
 unfold Y2p Y2p.body
 refine T.eq ?_ (fun K => e _)
 exact tna (by omega) (by omega) (h1 _)
theorem Y2q_c : ∀ {m : Nat} {t0 : List Obj} {n1 : Int} {n2 : Int} {n3 : Int} {t4 : Sym} {H1 : Int → (ι → O) → O} (g0 : szL t0) (g1 : 0 ≤ n3) (g2 : n3 ≤ n1) (g3 : n1 ≤ 1000000) (g4 : n1 < n3 + m) (g5 : n1 ≤ (t0.length : Int))
  (h1 : ∀ (a0 : Int), T P (H1 a0)),
  T P (fun K => Y2q m t0 n1 n2 n3 t4 (fun a0 => H1 a0 K)) := by
 intro m
 induction m with
 | zero => intros; omega
 | succ m ih =>
  intro t0 n1 n2 n3 t4 H1 g0 g1 g2 g3 g4 g5 h1
  rw [Y2q]
  unfold Y2q.body
  have z0_n761 := szL_get (i := Int.toNat n3) g0
  obtain ⟨_, _, _, _, _, _⟩ := z0_n761
  have z0 := szL_len g0
  have := wr64 ((n2 + (((List.length (List.getD t0 (Int.toNat n3) ([], ([], ([], ())))).2.1) : Nat) : Int)))
  have := wr64 ((n3 + (1 : Int)))
  have := wr64 ((n2 + (((List.length (List.getD t0 (Int.toNat n3) ([], ([], ([], ())))).2.2.1) : Nat) : Int)))
  repeat' first
   | (intro q; try subst q)
   | ((with_reducible refine ih ?_ ?_ ?_ ?_ ?_ ?_ h1) <;> try (first | with_reducible rfl | assumption | omega | solve_by_elim [szL_get, szO_f, szO_d, szO_s]))
   | ((with_reducible refine tna ?_ ?_ ?_); omega; omega)
   | ((with_reducible refine tn ?_ ?_); assumption)
   | (with_reducible first | refine h1 _ | refine tct ?_ | refine tcf ?_ | refine tcd ?_ ?_ | refine tce ?_ ?_ | refine tc ?_ ?_)
theorem Y2r_c {ts : List Obj} {i j : Int} {H1 : Int → (ι → O) → O} (hL : szL ts) (hb : BoundOk ts i j) (h1 : ∀ n : Int, T P (H1 n)) : T P (fun K => Y2r ts i j (fun a => H1 a K)) := by
 obtain ⟨a, b, ⟨v1, v2, v3, v4⟩, e⟩ := hb
 have := rb
 have := szL_len hL
 unfold Y2r Y2r.body
 refine T.eq ?_ (fun K => e _)
 exact tna (by omega) (by omega) (tna (by omega) (by omega) (Y2q_c hL (by omega) (by omega) (by omega) (by omega) (by omega) h1))
theorem Y2s_c : ∀ {m : Nat} {t0 : List Obj} {n1 : Int} {n2 : List Int} {n3 : Int} {n4 : List Int} {H1 : (List Int) → (ι → O) → O} (g0 : szL t0) (g1 : n2.length ≤ 1000000) (g2 : 0 ≤ n3) (g3 : n3 ≤ (((List.length n2) : Nat) : Int)) (g4 : (((List.length n2) : Nat) : Int) < n3 + m) (g5 : ∀ j : Int, 0 ≤ j → j < (n2.length : Int) → 0 ≤ List.getD n2 (Int.toNat j) 0 → BoundOk t0 n1 (List.getD n2 (Int.toNat j) 0)) (g6 : (n4.length : Int) ≤ n3)
  (h1 : ∀ (a0 : List Int), (a0.length ≤ 1000000) → T P (H1 a0)),
  T P (fun K => Y2s m t0 n1 n2 n3 n4 (fun a0 => H1 a0 K)) := by
 intro m
 induction m with
 | zero => intros; omega
 | succ m ih =>
  intro t0 n1 n2 n3 n4 H1 g0 g1 g2 g3 g4 g5 g6 h1
  rw [Y2s]
  unfold Y2s.body
  have z0 := szL_len g0
  have := wr64 ((n3 + (1 : Int)))
  repeat' first
   | (intro q; try subst q)
   | ((with_reducible first | refine h1 _ ?_ | refine ih ?_ ?_ ?_ ?_ ?_ ?_ ?_ h1 | refine Y2r_c ?_ ?_ ?_) <;> try (first | exact g5 _ (by omega) (by omega) (by omega) | (simp only [List.length_append, List.length_cons, List.length_nil] <;> omega) | with_reducible rfl | assumption | omega | solve_by_elim [szL_get, szO_f, szO_d, szO_s]))
   | ((with_reducible refine tna ?_ ?_ ?_); omega; omega)
   | ((with_reducible refine tnb ?_ ?_); focus (first | omega | (first | exact g5 _ (by omega) (by omega) (by omega) | (simp only [List.length_append, List.length_cons, List.length_nil] <;> omega) | with_reducible rfl | assumption | omega | solve_by_elim [szL_get, szO_f, szO_d, szO_s])))
   | ((with_reducible refine tn ?_ ?_); assumption)
   | (with_reducible first | refine tct ?_ | refine tcf ?_ | refine tcd ?_ ?_ | refine tc ?_ ?_)
theorem Y2t_c {t0 : List Obj} {n1 : Int} {n2 : List Int} {H1 : (List Int) → (ι → O) → O} (g0 : szL t0) (g1 : n2.length ≤ 1000000) (g2 : ∀ j : Int, 0 ≤ j → j < (n2.length : Int) → 0 ≤ List.getD n2 (Int.toNat j) 0 → BoundOk t0 n1 (List.getD n2 (Int.toNat j) 0))
  (h1 : ∀ (a0 : List Int), (a0.length ≤ 1000000) → T P (H1 a0)) :
  T P (fun K => Y2t t0 n1 n2 (fun a0 => H1 a0 K)) := by
 unfold Y2t Y2t.body
 have z0 := szL_len g0
 have := rb
 repeat' first
  | (intro q; try subst q)
  | ((with_reducible first | refine h1 _ ?_ | refine Y2s_c ?_ ?_ ?_ ?_ ?_ ?_ ?_ ?_) <;> try (first | (simp only [List.length_nil] <;> omega) | with_reducible rfl | assumption | omega | solve_by_elim [szL_get, szO_f, szO_d, szO_s]))
  | (with_reducible first | refine tct ?_ | refine tcf ?_ | refine tc ?_ ?_)
theorem Y2u_c : ∀ {m : Nat} {t0 : List Obj} {n1 : Int} {n2 : Int} {n3 : Int} {n4 : Int} {t5 : List Fun_} {t6 : List Dat_} {l7 : List Sym} {l8 : List Func} {l9 : List Data} {B : Int} {H1 : (List Obj) → Int → Int → Int → (List Fun_) → (List Dat_) → (List Sym) → (List Func) → (List Data) → (ι → O) → O} (g0 : szL t0) (g1 : 0 ≤ n2) (g2 : n2 ≤ (((List.length l8) : Nat) : Int)) (g3 : (((List.length l8) : Nat) : Int) < n2 + m) (g4 : szO (l7, (l8, (l9, ())))) (g5 : objOk (l7, (l8, (l9, ())))) (g6 : ∀ j : Int, 0 ≤ j → j < (l7.length : Int) → BoundOk t0 n1 j) (g7 : (t5.length : Int) ≤ B + n2) (g8 : 0 ≤ B ∧ B ≤ 1000000000)
  (h1 : ∀ (a0 : List Obj) (a1 : Int) (a2 : Int) (a3 : Int) (a4 : List Fun_) (a5 : List Dat_) (a6 : List Sym) (a7 : List Func) (a8 : List Data), t0 = a0 → n1 = a1 → n3 = a2 → n4 = a3 → t6 = a5 → l7 = a6 → l8 = a7 → l9 = a8 → ((a4.length : Int) ≤ B + 1000) → T P (H1 a0 a1 a2 a3 a4 a5 a6 a7 a8)),
  T P (fun K => Y2u m t0 n1 n2 n3 n4 t5 t6 l7 l8 l9 (fun a0 a1 a2 a3 a4 a5 a6 a7 a8 => H1 a0 a1 a2 a3 a4 a5 a6 a7 a8 K)) := by
 intro m
 induction m with
 | zero => intros; omega
 | succ m ih =>
  intro t0 n1 n2 n3 n4 t5 t6 l7 l8 l9 B H1 g0 g1 g2 g3 g4 g5 g6 g7 g8 h1
  rw [Y2u]
  unfold Y2u.body
  have z0 := szL_len g0
  have z4 := g4
  obtain ⟨_, _, _, _, _, _⟩ := z4
  have := wr64 ((n2 + (1 : Int)))
  have := rb
  have hz : l8.length ≤ 1000 := g4.2.1
  have hzf : szF (List.getD l8 (Int.toNat n2) ZFunc) := szO_f g4
  have hz2 := hzf
  obtain ⟨_, _, _, _⟩ := hz2
  have hit : n2 < (l8.length : Int) → itemOk (l7, (l8, (l9, ()))) n2 := fun h => g5 n2 (by omega) (by show _ < (List.length l8 : Int) + (List.length l9 : Int); omega)
  repeat' first
   | (intro q; try subst q)
   | ((with_reducible first | refine h1 _ _ _ _ _ _ _ _ _ ?_ ?_ ?_ ?_ ?_ ?_ ?_ ?_ ?_ | refine ih ?_ ?_ ?_ ?_ ?_ ?_ ?_ ?_ ?_ h1 | refine Y2p_c ?_ ?_ | refine Y2t_c ?_ ?_ ?_ ?_ | refine Y2o_c ?_ ?_ ?_ ?_ ?_ ?_ ?_ ?_ ?_ ?_ ?_) <;> try (first | exact (hit (by omega)).2.1 (by assumption) | exact (hit (by omega)).1 | exact inN_nil | (intro j hj1 hj2 hj3; exact g6 _ hj3 ((by assumption : inN _ _) j hj1 hj2 hj3)) | (simp only [List.length_append, List.length_cons, List.length_nil] <;> omega) | with_reducible rfl | assumption | omega | solve_by_elim [szL_get, szO_f, szO_d, szO_s]))
   | ((with_reducible refine tna ?_ ?_ ?_); omega; omega)
   | ((with_reducible refine tnb ?_ ?_); focus (first | omega | (first | exact (hit (by omega)).2.1 (by assumption) | exact (hit (by omega)).1 | exact inN_nil | (intro j hj1 hj2 hj3; exact g6 _ hj3 ((by assumption : inN _ _) j hj1 hj2 hj3)) | (simp only [List.length_append, List.length_cons, List.length_nil] <;> omega) | with_reducible rfl | assumption | omega | solve_by_elim [szL_get, szO_f, szO_d, szO_s])))
   | ((with_reducible refine tn ?_ ?_); assumption)
   | (with_reducible first | refine tct ?_ | refine tcf ?_ | refine tcd ?_ ?_ | refine tc ?_ ?_)
theorem Y2v_c : ∀ {m : Nat} {t0 : List Reloc} {n1 : Int} {n2 : Int} {n3 : Int} {n4 : Int} {n5 : List Int} {H1 : (List Reloc) → Int → Int → Int → (List Int) → (ι → O) → O} (g0 : t0.length ≤ 1000000) (g1 : -1 ≤ n4) (g2 : n4 < (t0.length : Int)) (g3 : n4 + 1 < m) (g4 : -1 ≤ n3) (g5 : n3 < (t0.length : Int))
  (h1 : ∀ (a0 : List Reloc) (a1 : Int) (a2 : Int) (a3 : Int) (a4 : List Int), t0 = a0 → n1 = a1 → n2 = a2 → n5 = a4 → (-1 ≤ a3) → (a3 < (t0.length : Int)) → T P (H1 a0 a1 a2 a3 a4)),
  T P (fun K => Y2v m t0 n1 n2 n3 n4 n5 (fun a0 a1 a2 a3 a4 => H1 a0 a1 a2 a3 a4 K)) := by
 intro m
 induction m with
 | zero => intros; omega
 | succ m ih =>
  intro t0 n1 n2 n3 n4 n5 H1 g0 g1 g2 g3 g4 g5 h1
  rw [Y2v]
  unfold Y2v.body
  have := wr64 ((n4 - (1 : Int)))
  repeat' first
   | (intro q; try subst q)
   | ((with_reducible first | refine h1 _ _ _ _ _ ?_ ?_ ?_ ?_ ?_ ?_ | refine ih ?_ ?_ ?_ ?_ ?_ ?_ h1) <;> try (first | with_reducible rfl | assumption | omega | solve_by_elim [szL_get, szO_f, szO_d, szO_s]))
   | ((with_reducible refine tna ?_ ?_ ?_); omega; omega)
   | ((with_reducible refine tn ?_ ?_); assumption)
   | (with_reducible first | refine tct ?_ | refine tcf ?_ | refine tcd ?_ ?_ | refine tce ?_ ?_ | refine tc ?_ ?_)
theorem Y2w_c : ∀ {m : Nat} {t0 : List Reloc} {n1 : Int} {n2 : Int} {n3 : List Int} {H1 : (List Int) → (ι → O) → O} (g0 : t0.length ≤ 1000000) (g1 : 0 ≤ n2) (g2 : n2 ≤ n1) (g3 : n1 ≤ 1000000) (g4 : n1 < n2 + m) (g5 : (n3.length : Int) ≤ n2) (g6 : inN n3 t0.length)
  (h1 : ∀ (a0 : List Int), (a0.length ≤ 1000000) → (inN a0 t0.length) → T P (H1 a0)),
  T P (fun K => Y2w m t0 n1 n2 n3 (fun a0 => H1 a0 K)) := by
 intro m
 induction m with
 | zero => intros; omega
 | succ m ih =>
  intro t0 n1 n2 n3 H1 g0 g1 g2 g3 g4 g5 g6 h1
  rw [Y2w]
  unfold Y2w.body
  have := wr64 (((((List.length t0) : Nat) : Int) - (1 : Int)))
  have := wr64 ((n2 + (1 : Int)))
  have := rb
  have := wr64 ((t0.length : Int) - 1)
  repeat' first
   | (intro q; try subst q)
   | ((with_reducible first | refine h1 _ ?_ ?_ | refine ih ?_ ?_ ?_ ?_ ?_ ?_ ?_ h1 | refine Y2v_c ?_ ?_ ?_ ?_ ?_ ?_ ?_) <;> try (first | (exact inN_app (by assumption) (fun _ => by omega)) | (simp only [List.length_append, List.length_cons, List.length_nil] <;> omega) | with_reducible rfl | assumption | omega | solve_by_elim [szL_get, szO_f, szO_d, szO_s]))
   | ((with_reducible refine tnb ?_ ?_); focus (first | omega | (first | (exact inN_app (by assumption) (fun _ => by omega)) | (simp only [List.length_append, List.length_cons, List.length_nil] <;> omega) | with_reducible rfl | assumption | omega | solve_by_elim [szL_get, szO_f, szO_d, szO_s])))
   | ((with_reducible refine tn ?_ ?_); assumption)
   | (with_reducible first | refine tct ?_ | refine tcf ?_ | refine tcd ?_ ?_ | refine tc ?_ ?_)
theorem Y2x_c {t0 : List Reloc} {n1 : Int} {H1 : (List Int) → (ι → O) → O} (g0 : t0.length ≤ 1000000) (g1 : 0 ≤ n1) (g2 : n1 ≤ 1000000)
  (h1 : ∀ (a0 : List Int), (a0.length ≤ 1000000) → (inN a0 t0.length) → T P (H1 a0)) :
  T P (fun K => Y2x t0 n1 (fun a0 => H1 a0 K)) := by
 unfold Y2x Y2x.body
 have := rb
 repeat' first
  | (intro q; try subst q)
  | ((with_reducible first | refine h1 _ ?_ ?_ | refine Y2w_c ?_ ?_ ?_ ?_ ?_ ?_ ?_ ?_) <;> try (first | exact inN_nil | (simp only [List.length_nil] <;> omega) | with_reducible rfl | assumption | omega | solve_by_elim [szL_get, szO_f, szO_d, szO_s]))
  | (with_reducible first | refine tct ?_ | refine tcf ?_ | refine tc ?_ ?_)
theorem Y2y_c : ∀ {m : Nat} {n0 : Int} {t1 : Data} {n2 : List Int} {N : Nat} {H1 : (List Int) → (ι → O) → O} (g0 : szD t1) (g1 : 0 ≤ n0) (g2 : n0 ≤ (((List.length n2) : Nat) : Int)) (g3 : (((List.length n2) : Nat) : Int) < n0 + m) (g4 : n2.length ≤ 1000000) (g5 : datOk t1 N) (g6 : ∀ j : Int, n0 ≤ j → j < (n2.length : Int) → 0 ≤ List.getD n2 (Int.toNat j) 0 → List.getD n2 (Int.toNat j) 0 < (t1.2.2.1.length : Int)) (g7 : ∀ j : Int, 0 ≤ j → j < n0 → 0 ≤ List.getD n2 (Int.toNat j) 0 → List.getD n2 (Int.toNat j) 0 < (N : Int))
  (h1 : ∀ (a0 : List Int), (a0.length ≤ 1000000) → (inN a0 N) → T P (H1 a0)),
  T P (fun K => Y2y m n0 t1 n2 (fun a0 => H1 a0 K)) := by
 intro m
 induction m with
 | zero => intros; omega
 | succ m ih =>
  intro n0 t1 n2 N H1 g0 g1 g2 g3 g4 g5 g6 g7 h1
  rw [Y2y]
  unfold Y2y.body
  have z0 := g0
  obtain ⟨_, _⟩ := z0
  have := wr64 ((n0 + (1 : Int)))
  have hq := g6 n0 (Int.le_refl _)
  repeat' first
   | (intro q; try subst q)
   | ((with_reducible first | refine h1 _ ?_ ?_ | refine ih ?_ ?_ ?_ ?_ ?_ ?_ ?_ ?_ h1) <;> try (first | (rw [List.length_set]; first | assumption | omega) | (intro j hj1 hj2 hj3; exact g7 j hj1 (by omega) hj3) | (intro j hj1 hj2; rw [List.length_set] at hj2; rw [getD_set (by omega), if_neg (by omega)]; exact g6 j (by omega) (by omega)) | (intro j hj1 hj2; exact g6 j (by omega) (by omega)) | (intro j hj1 hj2; rw [getD_set (by omega)]; split; exact fun _ => g5 _ (by omega) (g6 _ (by omega) (by omega) (by omega)); exact g7 j hj1 (by omega)) | (intro j hj1 hj2; by_cases hj : j < n0; exact g7 j hj1 hj; obtain rfl : j = n0 := (by omega); intro _; omega) | with_reducible rfl | assumption | omega | solve_by_elim [szL_get, szO_f, szO_d, szO_s]))
   | ((with_reducible refine tna ?_ ?_ ?_); omega; omega)
   | ((with_reducible refine tn ?_ ?_); assumption)
   | (with_reducible first | refine tct ?_ | refine tcf ?_ | refine tcd ?_ ?_ | refine tc ?_ ?_)
theorem Y2z_c {t0 : Data} {N : Nat} {H1 : (List Int) → (ι → O) → O} (g0 : szD t0) (g1 : datOk t0 N)
  (h1 : ∀ (a0 : List Int), (a0.length ≤ 1000000) → (inN a0 N) → T P (H1 a0)) :
  T P (fun K => Y2z t0 (fun a0 => H1 a0 K)) := by
 unfold Y2z Y2z.body
 have z0 := g0
 obtain ⟨_, _⟩ := z0
 have := rb
 repeat' first
  | (intro q; try subst q)
  | ((with_reducible first | refine h1 _ ?_ ?_ | refine Y2x_c ?_ ?_ ?_ ?_ | refine Y2y_c (N := N) ?_ ?_ ?_ ?_ ?_ ?_ ?_ ?_ ?_) <;> try (first | (intro j hj1 hj2; omega) | (intro j hj1 hj2 hj3; solve_by_elim)  | with_reducible rfl | assumption | omega | solve_by_elim [szL_get, szO_f, szO_d, szO_s]))
  | (with_reducible first | refine tct ?_ | refine tcf ?_ | refine tc ?_ ?_)
theorem Y30_c : ∀ {m : Nat} {t0 : List Obj} {n1 : Int} {n2 : Int} {n3 : Int} {n4 : Int} {t5 : List Fun_} {t6 : List Dat_} {l7 : List Sym} {l8 : List Func} {l9 : List Data} {B : Int} {H1 : (List Obj) → Int → Int → Int → (List Fun_) → (List Dat_) → (ι → O) → O} (g0 : szL t0) (g1 : 0 ≤ n2) (g2 : n2 ≤ (((List.length l9) : Nat) : Int)) (g3 : (((List.length l9) : Nat) : Int) < n2 + m) (g4 : szO (l7, (l8, (l9, ())))) (g5 : objOk (l7, (l8, (l9, ())))) (g6 : ∀ j : Int, 0 ≤ j → j < (l7.length : Int) → BoundOk t0 n1 j) (g7 : (t6.length : Int) ≤ B + n2) (g8 : 0 ≤ B ∧ B ≤ 1000000000)
  (h1 : ∀ (a0 : List Obj) (a1 : Int) (a2 : Int) (a3 : Int) (a4 : List Fun_) (a5 : List Dat_), t0 = a0 → n1 = a1 → n3 = a2 → n4 = a3 → t5 = a4 → ((a5.length : Int) ≤ B + 1000) → T P (H1 a0 a1 a2 a3 a4 a5)),
  T P (fun K => Y30 m t0 n1 n2 n3 n4 t5 t6 l7 l8 l9 (fun a0 a1 a2 a3 a4 a5 => H1 a0 a1 a2 a3 a4 a5 K)) := by
 intro m
 induction m with
 | zero => intros; omega
 | succ m ih =>
  intro t0 n1 n2 n3 n4 t5 t6 l7 l8 l9 B H1 g0 g1 g2 g3 g4 g5 g6 g7 g8 h1
  rw [Y30]
  unfold Y30.body
  have z0 := szL_len g0
  have z4 := g4
  obtain ⟨_, _, _, _, _, _⟩ := z4
  have := wr64 (((((List.length l8) : Nat) : Int) + n2))
  have := wr64 ((n2 + (1 : Int)))
  have hz : l9.length ≤ 1000 := g4.2.2.1
  have hz8 : l8.length ≤ 1000 := g4.2.1
  have hzd : szD (List.getD l9 (Int.toNat n2) ZData) := szO_d g4
  have hw := wr64 (((l8.length : Nat) : Int) + n2)
  have hit : n2 < (l9.length : Int) → itemOk (l7, (l8, (l9, ()))) ((l8.length : Int) + n2) := fun h => g5 _ (by omega) (by show _ < (List.length l8 : Int) + (List.length l9 : Int); omega)
  have hdat : n2 < (l9.length : Int) → datOk (List.getD l9 (Int.toNat n2) ZData) l7.length := fun h => dat_of (o := (l7, (l8, (l9, ())))) (hit h) (by omega)
  repeat' first
   | (intro q; try subst q)
   | ((with_reducible first | refine h1 _ _ _ _ _ _ ?_ ?_ ?_ ?_ ?_ ?_ | refine ih ?_ ?_ ?_ ?_ ?_ ?_ ?_ ?_ ?_ h1 | refine Y2p_c ?_ ?_ | refine Y2z_c (N := l7.length) ?_ ?_ ?_ | refine Y2t_c ?_ ?_ ?_ ?_) <;> try (first | exact hdat (by omega) | (rw [hw ⟨by omega, by omega⟩]; exact (hit (by omega)).1) | (intro j hj1 hj2 hj3; exact g6 _ hj3 ((by assumption : inN _ _) j hj1 hj2 hj3)) | (simp only [List.length_append, List.length_cons, List.length_nil] <;> omega) | with_reducible rfl | assumption | omega | solve_by_elim [szL_get, szO_f, szO_d, szO_s]))
   | ((with_reducible refine tna ?_ ?_ ?_); omega; omega)
   | ((with_reducible refine tnb ?_ ?_); focus (first | omega | (first | exact hdat (by omega) | (rw [hw ⟨by omega, by omega⟩]; exact (hit (by omega)).1) | (intro j hj1 hj2 hj3; exact g6 _ hj3 ((by assumption : inN _ _) j hj1 hj2 hj3)) | (simp only [List.length_append, List.length_cons, List.length_nil] <;> omega) | with_reducible rfl | assumption | omega | solve_by_elim [szL_get, szO_f, szO_d, szO_s])))
   | ((with_reducible refine tn ?_ ?_); assumption)
   | (with_reducible first | refine tct ?_ | refine tcf ?_ | refine tcd ?_ ?_ | refine tc ?_ ?_)
theorem Y31_c : ∀ {m : Nat} {t0 : List Obj} {n1 : Int} {n2 : Int} {n3 : Int} {t4 : List Fun_} {t5 : List Dat_} {H1 : Int → Int → (List Fun_) → (List Dat_) → (ι → O) → O} (g0 : szL t0) (g1 : 0 ≤ n1) (g2 : n1 ≤ (((List.length t0) : Nat) : Int)) (g3 : (((List.length t0) : Nat) : Int) < n1 + m) (g4 : ∀ i : Int, 0 ≤ i → i < (t0.length : Int) → objOk (List.getD t0 (Int.toNat i) ([], ([], ([], ()))))) (g5 : allOk t0) (g6 : (t4.length : Int) ≤ 1000 * n1) (g7 : (t5.length : Int) ≤ 1000 * n1)
  (h1 : ∀ (a0 : Int) (a1 : Int) (a2 : List Fun_) (a3 : List Dat_), n2 = a0 → n3 = a1 → ((a2.length : Int) ≤ 1000 * (t0.length : Int)) → ((a3.length : Int) ≤ 1000 * (t0.length : Int)) → T P (H1 a0 a1 a2 a3)),
  T P (fun K => Y31 m t0 n1 n2 n3 t4 t5 (fun a0 a1 a2 a3 => H1 a0 a1 a2 a3 K)) := by
 intro m
 induction m with
 | zero => intros; omega
 | succ m ih =>
  intro t0 n1 n2 n3 t4 t5 H1 g0 g1 g2 g3 g4 g5 g6 g7 h1
  rw [Y31]
  unfold Y31.body
  have z0_n701 := szL_get (i := Int.toNat n1) g0
  obtain ⟨_, _, _, _, _, _⟩ := z0_n701
  have z0 := szL_len g0
  have := wr64 ((n1 + (1 : Int)))
  have := rb
  have hz := szL_get (i := Int.toNat n1) g0
  obtain ⟨_, _, _, _, _, _⟩ := hz
  repeat' first
   | (intro q; try subst q)
   | ((with_reducible first | refine h1 _ _ _ _ ?_ ?_ ?_ ?_ | refine ih ?_ ?_ ?_ ?_ ?_ ?_ ?_ ?_ h1 | refine Y2u_c (B := 1000 * n1) ?_ ?_ ?_ ?_ ?_ ?_ ?_ ?_ ?_ ?_ | refine Y30_c (B := 1000 * n1) ?_ ?_ ?_ ?_ ?_ ?_ ?_ ?_ ?_ ?_) <;> try (first | exact szL_get (by assumption) | exact g4 _ (by omega) (by omega) | exact g5 _ (by omega) (by omega) | with_reducible rfl | assumption | omega | solve_by_elim [szL_get, szO_f, szO_d, szO_s]))
   | ((with_reducible refine tna ?_ ?_ ?_); omega; omega)
   | ((with_reducible refine tn ?_ ?_); assumption)
   | (with_reducible first | refine tct ?_ | refine tcf ?_ | refine tcd ?_ ?_ | refine tc ?_ ?_)
theorem Y32_c {t0 : List Obj} {H1 : Int → (List Fun_) → (List Dat_) → (ι → O) → O} (g0 : szL t0) (g1 : ∀ i : Int, 0 ≤ i → i < (t0.length : Int) → objOk (List.getD t0 (Int.toNat i) ([], ([], ([], ()))))) (g2 : allOk t0)
  (h1 : ∀ (a0 : Int) (a1 : List Fun_) (a2 : List Dat_), (a1.length ≤ 1000000) → (a2.length ≤ 1000000) → T P (H1 a0 a1 a2)) :
  T P (fun K => Y32 t0 (fun a0 a1 a2 => H1 a0 a1 a2 K)) := by
 unfold Y32 Y32.body
 have z0 := szL_len g0
 have := rb
 repeat' first
  | (intro q; try subst q)
  | ((with_reducible first | refine h1 _ _ _ ?_ ?_ | refine Y31_c ?_ ?_ ?_ ?_ ?_ ?_ ?_ ?_ ?_) <;> try (first | (simp only [List.length_nil] <;> omega) | with_reducible rfl | assumption | omega | solve_by_elim [szL_get, szO_f, szO_d, szO_s]))
  | (with_reducible first | refine tct ?_ | refine tcf ?_ | refine tc ?_ ?_)
theorem Y33_c {ts : List Obj} {s : ByteArray} {H1 : (List Fun_ × List Dat_ × Int × Unit) → (Int × Int × Int × Unit) → (ι → O) → O} (hL : szL ts) (hs : s.size ≤ 100000) (h1 : ∀ p e, p.1.length ≤ 1000000 → p.2.1.length ≤ 1000000 → T P (H1 p e)) : T P (fun K => Y33 ts s (fun a b => H1 a b K)) := by
 have := rb
 have := szL_len hL
 unfold Y33 Y33.body
 refine tcn (tce (fun _ => h1 _ _ (by decide) (by decide)) (fun _ => ?_))
 refine tcd (fun _ => h1 _ _ (by decide) (by decide)) (fun _ => ?_)
 refine Y2c_c hL hs (by omega) (by omega) (by omega) (fun i h1 h2 => by omega) (fun a b e1 e2 => h1 a b e1 e2) (fun a0 a1 a2 a3 e0 e1 e2 e3 hob => ?_)
 subst e0 e1 e2 e3
 refine Y2n_c hL (fun t ht => tcne (fun _ => h1 _ _ (by decide) (by decide)) (fun h0 => ?_))
 have hall := ht h0
 refine Y2g_c hL hs (fun a b c hv => tcn (tcn (tc (fun hc => ?_) (fun _ => h1 _ _ (by decide) (by decide)))))
 obtain ⟨v1, v2, v3, v4⟩ := hv hc
 refine tna (by omega) (by omega) (tna (by omega) (by omega) (tcn (tcne (fun _ => h1 _ _ (by decide) (by decide)) (fun _ => ?_))))
 refine tna (by omega) (by omega) (tna (by omega) (by omega) (tcd (fun _ => h1 _ _ (by decide) (by decide)) (fun _ => ?_)))
 exact Y32_c hL hob hall (fun a b c _ _ => Y2r_c hL (hall _ v1 v2 _ v3 v4) (fun n => h1 _ _ ‹_› ‹_›))
theorem Y34_c : ∀ {m : Nat} {n0 : Int} {t1 : Prog} {H1 : Bool → (ι → O) → O} {H2 : Prog → (ι → O) → O} (g0 : 0 ≤ n0) (g1 : n0 ≤ (((List.length t1.1) : Nat) : Int)) (g2 : (((List.length t1.1) : Nat) : Int) < n0 + m) (g3 : t1.1.length ≤ 1000000) (g4 : ∀ j : Int, 0 ≤ j → j < n0 → ((List.getD t1.1 (Int.toNat j) ZFun).2.2.2.2.2.2.2.2.2.2.1.length ≤ 80 ∧ (List.getD t1.1 (Int.toNat j) ZFun).2.2.2.2.2.2.2.2.2.2.2.2.1.length ≤ 80 ∧ (List.getD t1.1 (Int.toNat j) ZFun).2.2.2.2.1.length ≤ 80 ∧ (List.getD t1.1 (Int.toNat j) ZFun).2.2.2.2.2.2.2.2.2.2.2.1.length ≤ 80 ∧ (List.getD t1.1 (Int.toNat j) ZFun).2.2.2.2.2.2.2.2.2.1.length ≤ 80))
  (h1 : ∀ (a0 : Bool), (a0 = false) → T P (H1 a0))
  (h2 : ∀ (a0 : Prog), t1 = a0 → (∀ j : Int, 0 ≤ j → j < (t1.1.length : Int) → ((List.getD t1.1 (Int.toNat j) ZFun).2.2.2.2.2.2.2.2.2.2.1.length ≤ 80 ∧ (List.getD t1.1 (Int.toNat j) ZFun).2.2.2.2.2.2.2.2.2.2.2.2.1.length ≤ 80 ∧ (List.getD t1.1 (Int.toNat j) ZFun).2.2.2.2.1.length ≤ 80 ∧ (List.getD t1.1 (Int.toNat j) ZFun).2.2.2.2.2.2.2.2.2.2.2.1.length ≤ 80 ∧ (List.getD t1.1 (Int.toNat j) ZFun).2.2.2.2.2.2.2.2.2.1.length ≤ 80)) → T P (H2 a0)),
  T P (fun K => Y34 m n0 t1 (fun a0 => H1 a0 K) (fun a0 => H2 a0 K)) := by
 intro m
 induction m with
 | zero => intros; omega
 | succ m ih =>
  intro n0 t1 H1 H2 g0 g1 g2 g3 g4 h1 h2
  rw [Y34]
  unfold Y34.body
  have := wr64 ((n0 + (1 : Int)))
  repeat' first
   | (intro q; try subst q)
   | ((with_reducible first | refine h1 _ ?_ | refine h2 _ ?_ ?_ | refine ih ?_ ?_ ?_ ?_ ?_ h1 h2) <;> try (first | exact stepJ (by assumption) (by first | assumption | (refine ⟨?_, ?_, ?_, ?_, ?_⟩ <;> omega) | (refine ⟨?_, ?_, ?_⟩ <;> omega)) (by omega) | (intro j hj1 hj2; exact g4 j hj1 (by omega)) | (intro j hj1 hj2; omega) | with_reducible rfl | assumption | omega | solve_by_elim [szL_get, szO_f, szO_d, szO_s]))
   | ((with_reducible refine tna ?_ ?_ ?_); omega; omega)
   | ((with_reducible refine tn ?_ ?_); assumption)
   | (with_reducible first | refine tct ?_ | refine tcf ?_ | refine tcn ?_ | refine tcd ?_ ?_ | refine tc ?_ ?_)
theorem Y35_c : ∀ {m : Nat} {n0 : Int} {t1 : Prog} {H1 : Bool → (ι → O) → O} {H2 : Prog → (ι → O) → O} (g0 : 0 ≤ n0) (g1 : n0 ≤ (((List.length t1.2.1) : Nat) : Int)) (g2 : (((List.length t1.2.1) : Nat) : Int) < n0 + m) (g3 : t1.2.1.length ≤ 1000000) (g4 : ∀ j : Int, 0 ≤ j → j < n0 → ((List.getD t1.2.1 (Int.toNat j) ZDat).2.2.2.2.1.length ≤ 80 ∧ (List.getD t1.2.1 (Int.toNat j) ZDat).2.2.2.2.2.2.1.length ≤ 80 ∧ (List.getD t1.2.1 (Int.toNat j) ZDat).2.2.2.2.2.1.length ≤ 80))
  (h1 : ∀ (a0 : Bool), (a0 = false) → T P (H1 a0))
  (h2 : ∀ (a0 : Prog), t1 = a0 → (∀ j : Int, 0 ≤ j → j < (t1.2.1.length : Int) → ((List.getD t1.2.1 (Int.toNat j) ZDat).2.2.2.2.1.length ≤ 80 ∧ (List.getD t1.2.1 (Int.toNat j) ZDat).2.2.2.2.2.2.1.length ≤ 80 ∧ (List.getD t1.2.1 (Int.toNat j) ZDat).2.2.2.2.2.1.length ≤ 80)) → T P (H2 a0)),
  T P (fun K => Y35 m n0 t1 (fun a0 => H1 a0 K) (fun a0 => H2 a0 K)) := by
 intro m
 induction m with
 | zero => intros; omega
 | succ m ih =>
  intro n0 t1 H1 H2 g0 g1 g2 g3 g4 h1 h2
  rw [Y35]
  unfold Y35.body
  have := wr64 ((n0 + (1 : Int)))
  repeat' first
   | (intro q; try subst q)
   | ((with_reducible first | refine h1 _ ?_ | refine h2 _ ?_ ?_ | refine ih ?_ ?_ ?_ ?_ ?_ h1 h2) <;> try (first | exact stepJ (by assumption) (by first | assumption | (refine ⟨?_, ?_, ?_, ?_, ?_⟩ <;> omega) | (refine ⟨?_, ?_, ?_⟩ <;> omega)) (by omega) | (intro j hj1 hj2; exact g4 j hj1 (by omega)) | (intro j hj1 hj2; omega) | with_reducible rfl | assumption | omega | solve_by_elim [szL_get, szO_f, szO_d, szO_s]))
   | ((with_reducible refine tna ?_ ?_ ?_); omega; omega)
   | ((with_reducible refine tn ?_ ?_); assumption)
   | (with_reducible first | refine tct ?_ | refine tcf ?_ | refine tcn ?_ | refine tcd ?_ ?_ | refine tc ?_ ?_)
theorem Y36_c {t0 : Prog} {H1 : Bool → (ι → O) → O} (g0 : t0.1.length ≤ 1000000) (g1 : t0.2.1.length ≤ 1000000)
  (h1 : ∀ (a0 : Bool), (a0 = true → few25 t0) → T P (H1 a0)) :
  T P (fun K => Y36 t0 (fun a0 => H1 a0 K)) := by
 unfold Y36 Y36.body
 have := rb
 repeat' first
  | (intro q; try subst q)
  | ((with_reducible first | refine h1 _ ?_ | refine Y34_c ?_ ?_ ?_ ?_ ?_ ?_ ?_ | refine Y35_c ?_ ?_ ?_ ?_ ?_ ?_ ?_) <;> try (first | (intro h; contradiction) | (intro j hj1 hj2; omega) | (intro h; have := of_decide_eq_true h; exact ⟨by omega, by omega, all_of_getD (by assumption), all_of_getD (by assumption)⟩) | with_reducible rfl | assumption | omega | solve_by_elim [szL_get, szO_f, szO_d, szO_s]))
  | (with_reducible first | refine tct ?_ | refine tcf ?_ | refine tcd ?_ ?_ | refine tc ?_ ?_)
theorem Y37_c {ts3 : List Obj} {t4 : Plan} {H1 : Prog → Bool → (ι → O) → O} (g0 : okLs ts3)
  (h1 : ∀ (a0 : Prog) (a1 : Bool), (a1 = true → few25 a0) → T P (H1 a0 a1)) :
  T P (fun K => Y37 ts3 t4 (fun a0 a1 => H1 a0 a1 K)) := by
 unfold Y37 Y37.body
 repeat' first
  | (intro q; try subst q)
  | ((with_reducible first | refine h1 _ _ ?_ | refine Y7_c ?_ ?_ | refine Y33_c ?_ ?_ ?_ | refine Y36_c ?_ ?_ ?_) <;> try (first | (intro h; contradiction) | decide | with_reducible rfl | assumption | omega | solve_by_elim [szL_get, szO_f, szO_d, szO_s]))
  | (with_reducible first | refine tct ?_ | refine tcf ?_ | refine tcn ?_ | refine tcd ?_ ?_ | refine tce ?_ ?_ | refine tc ?_ ?_)
theorem Y3m_c {n0 : Int} {n1 : Int} {n2 : Int} {H1 : Int → (ι → O) → O}
  (h1 : ∀ (a0 : Int), T P (H1 a0)) :
  T P (fun K => Y3m n0 n1 n2 (fun a0 => H1 a0 K)) := by
 unfold Y3m Y3m.body
 repeat' first
  | (intro q; try subst q)
  | (with_reducible first | refine h1 _ | refine tct ?_ | refine tcf ?_ | refine tcd ?_ ?_ | refine tc ?_ ?_)
theorem Y3n_c {t0 : Func} {H1 : Int → (ι → O) → O}
  (h1 : ∀ (a0 : Int), T P (H1 a0)) :
  T P (fun K => Y3n t0 (fun a0 => H1 a0 K)) := by
 unfold Y3n Y3n.body
 repeat' first
  | (intro q; try subst q)
  | (with_reducible first | refine h1 _ | refine Y3m_c ?_ | refine tct ?_ | refine tcf ?_ | refine tc ?_ ?_)
theorem Y3o_c {n0 : List Int} {n1 : Int} {n2 : Int} {H1 : Int → (ι → O) → O} (g0 : 0 ≤ n2) (g1 : 0 ≤ n1) (g2 : n0.length ≤ 1000000)
  (h1 : ∀ (a0 : Int), (a0 < n2) → T P (H1 a0)) :
  T P (fun K => Y3o n0 n1 n2 (fun a0 => H1 a0 K)) := by
 unfold Y3o Y3o.body
 repeat' first
  | (intro q; try subst q)
  | ((with_reducible refine h1 _ ?_) <;> try (first | with_reducible rfl | assumption | omega | solve_by_elim [szL_get, szO_f, szO_d, szO_s]))
  | ((with_reducible refine tna ?_ ?_ ?_); omega; omega)
  | ((with_reducible refine tn ?_ ?_); assumption)
  | (with_reducible first | refine tct ?_ | refine tcf ?_ | refine tcn ?_ | refine tcd ?_ ?_ | refine tc ?_ ?_)
theorem Y3w_c : ∀ {m : Nat} {n0 : Int} {n1 : Int} {n2 : Int} {t3 : Func} {H1 : Int → (ι → O) → O} (g0 : 0 ≤ n2) (g1 : n2 ≤ (((List.length t3.2.2.2.2.2.2.1) : Nat) : Int)) (g2 : (((List.length t3.2.2.2.2.2.2.1) : Nat) : Int) < n2 + m) (g3 : t3.2.2.2.2.2.2.1.length ≤ 1000000)
  (h1 : ∀ (a0 : Int), T P (H1 a0)),
  T P (fun K => Y3w m n0 n1 n2 t3 (fun a0 => H1 a0 K)) := by
 intro m
 induction m with
 | zero => intros; omega
 | succ m ih =>
  intro n0 n1 n2 t3 H1 g0 g1 g2 g3 h1
  rw [Y3w]
  unfold Y3w.body
  have := wr64 ((n2 + (1 : Int)))
  repeat' first
   | (intro q; try subst q)
   | ((with_reducible refine ih ?_ ?_ ?_ ?_ h1) <;> try (first | with_reducible rfl | assumption | omega | solve_by_elim [szL_get, szO_f, szO_d, szO_s]))
   | ((with_reducible refine tna ?_ ?_ ?_); omega; omega)
   | ((with_reducible refine tn ?_ ?_); assumption)
   | (with_reducible first | refine h1 _ | refine tct ?_ | refine tcf ?_ | refine tcd ?_ ?_ | refine tc ?_ ?_)
theorem Y3x_c {t0 : Func} {n1 : Int} {H1 : Int → (ι → O) → O} (g0 : t0.2.2.2.2.2.2.1.length ≤ 80)
  (h1 : ∀ (a0 : Int), T P (H1 a0)) :
  T P (fun K => Y3x t0 n1 (fun a0 => H1 a0 K)) := by
 unfold Y3x Y3x.body
 have := rb
 repeat' first
  | (intro q; try subst q)
  | ((with_reducible refine Y3w_c ?_ ?_ ?_ ?_ ?_) <;> try (first | with_reducible rfl | assumption | omega | solve_by_elim [szL_get, szO_f, szO_d, szO_s]))
  | (with_reducible first | refine h1 _ | refine tct ?_ | refine tcf ?_ | refine tc ?_ ?_)
theorem Y41_c : ∀ {m : Nat} {t0 : List (Int × Int × Bool × Int × Unit)} {n1 : Int} {t2 : List (Int × Int × Int × Bool × Int × Unit)} {H1 : (List (Int × Int × Int × Bool × Int × Unit)) → (ι → O) → O} (g0 : 0 ≤ n1) (g1 : n1 ≤ (((List.length t0) : Nat) : Int)) (g2 : (((List.length t0) : Nat) : Int) < n1 + m) (g3 : t0.length ≤ 1000000) (g4 : (t2.length : Int) ≤ n1)
  (h1 : ∀ (a0 : List (Int × Int × Int × Bool × Int × Unit)), ((a0.length : Int) ≤ (t0.length : Int)) → T P (H1 a0)),
  T P (fun K => Y41 m t0 n1 t2 (fun a0 => H1 a0 K)) := by
 intro m
 induction m with
 | zero => intros; omega
 | succ m ih =>
  intro t0 n1 t2 H1 g0 g1 g2 g3 g4 h1
  rw [Y41]
  unfold Y41.body
  have := wr64 ((n1 - (1 : Int)))
  have := wr64 ((n1 + (1 : Int)))
  repeat' first
   | (intro q; try subst q)
   | ((with_reducible first | refine h1 _ ?_ | refine ih ?_ ?_ ?_ ?_ ?_ h1) <;> try (first | (simp only [List.length_append, List.length_cons, List.length_nil] <;> omega) | with_reducible rfl | assumption | omega | solve_by_elim [szL_get, szO_f, szO_d, szO_s]))
   | ((with_reducible refine tna ?_ ?_ ?_); omega; omega)
   | ((with_reducible refine tnb ?_ ?_); focus (first | omega | (first | (simp only [List.length_append, List.length_cons, List.length_nil] <;> omega) | with_reducible rfl | assumption | omega | solve_by_elim [szL_get, szO_f, szO_d, szO_s])))
   | ((with_reducible refine tn ?_ ?_); assumption)
   | (with_reducible first | refine tct ?_ | refine tcf ?_ | refine tcn ?_ | refine tcd ?_ ?_ | refine tce ?_ ?_ | refine tc ?_ ?_)
theorem Y42_c {t0 : List (Int × Int × Bool × Int × Unit)} {H1 : (List (Int × Int × Int × Bool × Int × Unit)) → (ι → O) → O} (g0 : t0.length ≤ 1000000)
  (h1 : ∀ (a0 : List (Int × Int × Int × Bool × Int × Unit)), ((a0.length : Int) ≤ (t0.length : Int)) → T P (H1 a0)) :
  T P (fun K => Y42 t0 (fun a0 => H1 a0 K)) := by
 unfold Y42 Y42.body
 have := rb
 repeat' first
  | (intro q; try subst q)
  | ((with_reducible first | refine h1 _ ?_ | refine Y41_c ?_ ?_ ?_ ?_ ?_ ?_) <;> try (first | (simp only [List.length_append, List.length_cons, List.length_nil] <;> omega) | with_reducible rfl | assumption | omega | solve_by_elim [szL_get, szO_f, szO_d, szO_s]))
  | (with_reducible first | refine tct ?_ | refine tcf ?_ | refine tc ?_ ?_)
theorem Y6s_c {p : Prog} {plan : Plan} {i : Int} {H1 : Bool → (ι → O) → O} (h1 : ∀ b, (b = true ↔ 0 ≤ i ∧ i < (p.1.length : Int) ∧ plan.1.getD i.toNat false = true) → T P (H1 b)) : T P (fun K => Y6s p plan i (fun a => H1 a K)) := by
 unfold Y6s Y6s.body
 refine tcd (fun h => tcd (fun h2 => tcd (fun h3 => tna (by omega) (by omega) (h1 _ ⟨fun h4 => ⟨h, h2, h4⟩, fun h4 => h4.2.2⟩)) (fun h3 => h1 _ ⟨fun h4 => (nomatch h4), fun h4 => ?_⟩)) (fun h2 => h1 _ ⟨fun h4 => (nomatch h4), fun h4 => by omega⟩)) (fun h2 => h1 _ ⟨fun h4 => (nomatch h4), fun h4 => by omega⟩)
 have := h4.2.2
 rw [getD_ge (by omega)] at this
 exact this
theorem Y6t_c {plan : Plan} {i : Int} {H1 : Int → (ι → O) → O} (h0 : 0 ≤ i) (h1 : T P (H1 (plan.2.1.getD i.toNat 0))) : T P (fun K => Y6t plan i (fun a => H1 a K)) := by
 unfold Y6t Y6t.body
 refine tcn (tcd (fun h => by omega) (fun h => tcd (fun h2 => ?_) (fun h2 => tna (by omega) (by omega) h1)))
 rw [getD_ge (by omega)] at h1
 exact h1
theorem Y6u_c {p : Prog} {plan : Plan} {i : Int} {H1 : Int → (ι → O) → O} (h1 : ∀ n, n = sizeV p plan i → T P (H1 n)) : T P (fun K => Y6u p plan i (fun a => H1 a K)) := by
 unfold Y6u Y6u.body
 refine Y6s_c (fun b e => tcn (tc (fun hb => ?_) (fun hb => h1 _ ?_)))
 ·have hk := e.1 hb
  refine tna (by omega) (by omega) (Y6t_c hk.1 (tcne (fun h3 => h1 _ ?_) (fun h3 => h1 _ ?_)))
  ·unfold sizeV; rw [if_pos hk, if_pos h3]
  ·unfold sizeV; rw [if_pos hk, if_neg (fun h => h h3)]
 ·unfold sizeV
  rw [if_neg (fun h => ?_)]
  rw [e.2 h] at hb
  cases hb
theorem Y6v_c : ∀ {m : Nat} {n0 : Int} {n1 : Int} {n2 : Int} {t3 : Prog} {t4 : Plan} {H1 : Int → (ι → O) → O} (g0 : 0 ≤ n2) (g1 : n2 ≤ n0) (g2 : n0 ≤ 1000000) (g3 : n0 < n2 + m) (g4 : few25 t3) (g5 : n0 ≤ (t3.1.length : Int))
  (h1 : ∀ (a0 : Int), T P (H1 a0)),
  T P (fun K => Y6v m n0 n1 n2 t3 t4 (fun a0 => H1 a0 K)) := by
 intro m
 induction m with
 | zero => intros; omega
 | succ m ih =>
  intro n0 n1 n2 t3 t4 H1 g0 g1 g2 g3 g4 g5 h1
  rw [Y6v]
  unfold Y6v.body
  have := wr64 ((n2 + (1 : Int)))
  have := g4.1
  repeat' first
   | (intro q; try subst q)
   | ((with_reducible refine ih ?_ ?_ ?_ ?_ ?_ ?_ h1) <;> try (first | with_reducible rfl | assumption | omega | solve_by_elim [szL_get, szO_f, szO_d, szO_s]))
   | (with_reducible first | refine h1 _ | refine Y6u_c ?_ | refine tct ?_ | refine tcf ?_ | refine tcd ?_ ?_ | refine tc ?_ ?_)
theorem Y6w_c {t0 : Prog} {t1 : Plan} {n2 : Int} {H1 : Int → (ι → O) → O} (g0 : few25 t0) (g1 : 0 ≤ n2) (g2 : n2 ≤ (t0.1.length : Int))
  (h1 : ∀ (a0 : Int), T P (H1 a0)) :
  T P (fun K => Y6w t0 t1 n2 (fun a0 => H1 a0 K)) := by
 unfold Y6w Y6w.body
 have := rb
 have := g0.1
 repeat' first
  | (intro q; try subst q)
  | ((with_reducible refine Y6v_c ?_ ?_ ?_ ?_ ?_ ?_ ?_) <;> try (first | with_reducible rfl | assumption | omega | solve_by_elim [szL_get, szO_f, szO_d, szO_s]))
  | (with_reducible first | refine h1 _ | refine tct ?_ | refine tcf ?_ | refine tc ?_ ?_)
theorem Y6x_c : ∀ {m : Nat} {n0 : Int} {t1 : Prog} {t2 : Plan} {n3 : List Int} {H1 : (List Int) → (ι → O) → O} (g0 : 0 ≤ n0) (g1 : n0 ≤ (((List.length t1.1) : Nat) : Int)) (g2 : (((List.length t1.1) : Nat) : Int) < n0 + m) (g3 : few25 t1) (g4 : (n3.length : Int) = n0)
  (h1 : ∀ (a0 : List Int), ((a0.length : Int) = (t1.1.length : Int)) → T P (H1 a0)),
  T P (fun K => Y6x m n0 t1 t2 n3 (fun a0 => H1 a0 K)) := by
 intro m
 induction m with
 | zero => intros; omega
 | succ m ih =>
  intro n0 t1 t2 n3 H1 g0 g1 g2 g3 g4 h1
  rw [Y6x]
  unfold Y6x.body
  have := wr64 ((n0 + (1 : Int)))
  have := g3.1
  repeat' first
   | (intro q; try subst q)
   | ((with_reducible first | refine h1 _ ?_ | refine ih ?_ ?_ ?_ ?_ ?_ h1 | refine Y6w_c ?_ ?_ ?_ ?_) <;> try (first | (simp only [List.length_append, List.length_cons, List.length_nil] <;> omega) | with_reducible rfl | assumption | omega | solve_by_elim [szL_get, szO_f, szO_d, szO_s]))
   | ((with_reducible refine tnb ?_ ?_); focus (first | omega | (first | (simp only [List.length_append, List.length_cons, List.length_nil] <;> omega) | with_reducible rfl | assumption | omega | solve_by_elim [szL_get, szO_f, szO_d, szO_s])))
   | ((with_reducible refine tn ?_ ?_); assumption)
   | (with_reducible first | refine Y6s_c ?_ | refine tct ?_ | refine tcf ?_ | refine tcd ?_ ?_ | refine tc ?_ ?_)
theorem Y6y_c {t0 : Prog} {t1 : Plan} {H1 : (List Int) → (ι → O) → O} (g0 : few25 t0)
  (h1 : ∀ (a0 : List Int), ((a0.length : Int) = (t0.1.length : Int)) → T P (H1 a0)) :
  T P (fun K => Y6y t0 t1 (fun a0 => H1 a0 K)) := by
 unfold Y6y Y6y.body
 have := rb
 have := g0.1
 repeat' first
  | (intro q; try subst q)
  | ((with_reducible first | refine h1 _ ?_ | refine Y6x_c ?_ ?_ ?_ ?_ ?_ ?_) <;> try (first | exact List.length_nil ▸ rfl | (simp only [List.length_nil] <;> omega) | with_reducible rfl | assumption | omega | solve_by_elim [szL_get, szO_f, szO_d, szO_s]))
  | (with_reducible first | refine tct ?_ | refine tcf ?_ | refine tc ?_ ?_)
theorem Y6z_c : ∀ {m : Nat} {n0 : Int} {n1 : Int} {n2 : Int} {t3 : Prog} {H1 : Int → (ι → O) → O} (g0 : 0 ≤ n2) (g1 : n2 ≤ n0) (g2 : n0 ≤ 1000000) (g3 : n0 < n2 + m) (g4 : few25 t3) (g5 : n0 ≤ (t3.2.1.length : Int))
  (h1 : ∀ (a0 : Int), T P (H1 a0)),
  T P (fun K => Y6z m n0 n1 n2 t3 (fun a0 => H1 a0 K)) := by
 intro m
 induction m with
 | zero => intros; omega
 | succ m ih =>
  intro n0 n1 n2 t3 H1 g0 g1 g2 g3 g4 g5 h1
  rw [Y6z]
  unfold Y6z.body
  have := wr64 ((n1 + (1 : Int)))
  have := wr64 ((n2 + (1 : Int)))
  have := g4.2.1
  repeat' first
   | (intro q; try subst q)
   | ((with_reducible refine ih ?_ ?_ ?_ ?_ ?_ ?_ h1) <;> try (first | with_reducible rfl | assumption | omega | solve_by_elim [szL_get, szO_f, szO_d, szO_s]))
   | ((with_reducible refine tna ?_ ?_ ?_); omega; omega)
   | ((with_reducible refine tn ?_ ?_); assumption)
   | (with_reducible first | refine h1 _ | refine tct ?_ | refine tcf ?_ | refine tcd ?_ ?_ | refine tc ?_ ?_)
theorem Y70_c {t0 : Prog} {n1 : Int} {H1 : Int → (ι → O) → O} (g0 : few25 t0) (g1 : 0 ≤ n1) (g2 : n1 ≤ (t0.2.1.length : Int))
  (h1 : ∀ (a0 : Int), T P (H1 a0)) :
  T P (fun K => Y70 t0 n1 (fun a0 => H1 a0 K)) := by
 unfold Y70 Y70.body
 have := rb
 have := g0.2.1
 repeat' first
  | (intro q; try subst q)
  | ((with_reducible refine Y6z_c ?_ ?_ ?_ ?_ ?_ ?_ ?_) <;> try (first | with_reducible rfl | assumption | omega | solve_by_elim [szL_get, szO_f, szO_d, szO_s]))
  | (with_reducible first | refine h1 _ | refine tct ?_ | refine tcf ?_ | refine tc ?_ ?_)
theorem Y71_c : ∀ {m : Nat} {n0 : Int} {t1 : Prog} {n2 : List Int} {H1 : (List Int) → (ι → O) → O} (g0 : 0 ≤ n0) (g1 : n0 ≤ (((List.length t1.2.1) : Nat) : Int)) (g2 : (((List.length t1.2.1) : Nat) : Int) < n0 + m) (g3 : few25 t1) (g4 : (n2.length : Int) = n0)
  (h1 : ∀ (a0 : List Int), ((a0.length : Int) = (t1.2.1.length : Int)) → T P (H1 a0)),
  T P (fun K => Y71 m n0 t1 n2 (fun a0 => H1 a0 K)) := by
 intro m
 induction m with
 | zero => intros; omega
 | succ m ih =>
  intro n0 t1 n2 H1 g0 g1 g2 g3 g4 h1
  rw [Y71]
  unfold Y71.body
  have := wr64 ((n0 + (1 : Int)))
  have := g3.2.1
  repeat' first
   | (intro q; try subst q)
   | ((with_reducible first | refine h1 _ ?_ | refine ih ?_ ?_ ?_ ?_ ?_ h1 | refine Y70_c ?_ ?_ ?_ ?_) <;> try (first | (simp only [List.length_append, List.length_cons, List.length_nil] <;> omega) | with_reducible rfl | assumption | omega | solve_by_elim [szL_get, szO_f, szO_d, szO_s]))
   | ((with_reducible refine tnb ?_ ?_); focus (first | omega | (first | (simp only [List.length_append, List.length_cons, List.length_nil] <;> omega) | with_reducible rfl | assumption | omega | solve_by_elim [szL_get, szO_f, szO_d, szO_s])))
   | ((with_reducible refine tn ?_ ?_); assumption)
   | (with_reducible first | refine tct ?_ | refine tcf ?_ | refine tcd ?_ ?_ | refine tc ?_ ?_)
theorem Y72_c {t0 : Prog} {H1 : (List Int) → (ι → O) → O} (g0 : few25 t0)
  (h1 : ∀ (a0 : List Int), T P (H1 a0)) :
  T P (fun K => Y72 t0 (fun a0 => H1 a0 K)) := by
 unfold Y72 Y72.body
 have := rb
 have := g0.2.1
 repeat' first
  | (intro q; try subst q)
  | ((with_reducible refine Y71_c ?_ ?_ ?_ ?_ ?_ ?_) <;> try (first | exact List.length_nil ▸ rfl | (simp only [List.length_nil] <;> omega) | with_reducible rfl | assumption | omega | solve_by_elim [szL_get, szO_f, szO_d, szO_s]))
  | (with_reducible first | refine h1 _ | refine tct ?_ | refine tcf ?_ | refine tc ?_ ?_)
set_option maxHeartbeats 4000000 in
theorem Y73_c {t0 : Prog} {n1 : List Int} {n2 : List Int} {t3 : Fun_} {n4 : Int} {n5 : Int} {H1 : Instr → (ι → O) → O} (g0 : n1.length = t0.1.length) (g1 : t3.2.2.2.2.2.2.2.2.2.2.1.length ≤ 80) (g2 : 0 ≤ n4) (g3 : n4 < (t3.2.2.2.2.2.2.2.2.2.2.1.length : Int)) (g4 : t3.2.2.2.2.2.2.2.2.2.2.2.2.1.length ≤ 80)
  (h1 : ∀ (a0 : Instr), T P (H1 a0)) :
  T P (fun K => Y73 t0 n1 n2 t3 n4 n5 (fun a0 => H1 a0 K)) := by
 unfold Y73 Y73.body
 have := wr64 (((List.getD t3.2.2.2.2.2.2.2.2.2.2.1 (Int.toNat n4) ZIns).2.2.2.2.1 + n5))
 repeat' first
  | (intro q; try subst q)
  | ((with_reducible refine Y3o_c ?_ ?_ ?_ ?_) <;> try (first | with_reducible rfl | assumption | omega | solve_by_elim [szL_get, szO_f, szO_d, szO_s]))
  | ((with_reducible refine tna ?_ ?_ ?_); omega; omega)
  | ((with_reducible refine tn ?_ ?_); assumption)
  | (with_reducible first | refine h1 _ | refine Y1m_c ?_ | refine Y1d_c ?_ | refine tct ?_ | refine tcf ?_ | refine tcn ?_ | refine tcd ?_ ?_ | refine tce ?_ ?_ | refine tcne ?_ ?_ | refine tc ?_ ?_)
theorem Y74_c : ∀ {m : Nat} {n0 : Int} {n1 : Int} {n2 : Int} {t3 : Prog} {t4 : Plan} {n5 : List Int} {n6 : List Int} {t7 : List Instr} {n8 : Int} {n9 : Int} {sa : ByteArray} {nb : Int} {lc : List Int} {nd : Int} {be : Bool} {nf : Int} {ng : Int} {lh : List Line} {li : List Instr} {lj : List Reloc} {lk : List Int} {H1 : Int → Prog → Plan → (List Int) → (List Int) → (List Instr) → (ι → O) → O} (g0 : 0 ≤ n2) (g1 : n2 ≤ (((List.length li) : Nat) : Int)) (g2 : (((List.length li) : Nat) : Int) < n2 + m) (g3 : li.length ≤ 80) (g4 : lk.length ≤ 80) (g5 : n5.length = t3.1.length) (g6 : (t7.length : Int) ≤ 4 + 82 * n0 + n2) (g7 : 0 ≤ n0) (g8 : n0 ≤ 1000)
  (h1 : ∀ (a0 : Int) (a1 : Prog) (a2 : Plan) (a3 : List Int) (a4 : List Int) (a5 : List Instr), n0 = a0 → t3 = a1 → t4 = a2 → n5 = a3 → n6 = a4 → ((a5.length : Int) ≤ 84 + 82 * n0) → T P (H1 a0 a1 a2 a3 a4 a5)),
  T P (fun K => Y74 m n0 n1 n2 t3 t4 n5 n6 t7 n8 n9 sa nb lc nd be nf ng lh li lj lk (fun a0 a1 a2 a3 a4 a5 => H1 a0 a1 a2 a3 a4 a5 K)) := by
 intro m
 induction m with
 | zero => intros; omega
 | succ m ih =>
  intro n0 n1 n2 t3 t4 n5 n6 t7 n8 n9 sa nb lc nd be nf ng lh li lj lk H1 g0 g1 g2 g3 g4 g5 g6 g7 g8 h1
  rw [Y74]
  unfold Y74.body
  have := wr64 ((n2 + (1 : Int)))
  repeat' first
   | (intro q; try subst q)
   | ((with_reducible first | refine h1 _ _ _ _ _ _ ?_ ?_ ?_ ?_ ?_ ?_ | refine ih ?_ ?_ ?_ ?_ ?_ ?_ ?_ ?_ ?_ h1 | refine Y73_c ?_ ?_ ?_ ?_ ?_ ?_) <;> try (first | (simp only [List.length_append, List.length_cons, List.length_nil] <;> omega) | with_reducible rfl | assumption | omega | solve_by_elim [szL_get, szO_f, szO_d, szO_s]))
   | ((with_reducible refine tnb ?_ ?_); focus (first | omega | (first | (simp only [List.length_append, List.length_cons, List.length_nil] <;> omega) | with_reducible rfl | assumption | omega | solve_by_elim [szL_get, szO_f, szO_d, szO_s])))
   | ((with_reducible refine tn ?_ ?_); assumption)
   | (with_reducible first | refine tct ?_ | refine tcf ?_ | refine tcd ?_ ?_ | refine tc ?_ ?_)
set_option maxHeartbeats 4000000 in
theorem Y75_c : ∀ {m : Nat} {n0 : Int} {t1 : Prog} {t2 : Plan} {n3 : List Int} {n4 : List Int} {t5 : List Instr} {H1 : (List Instr) → (ι → O) → O} (g0 : 0 ≤ n0) (g1 : n0 ≤ (((List.length t1.1) : Nat) : Int)) (g2 : (((List.length t1.1) : Nat) : Int) < n0 + m) (g3 : few25 t1) (g4 : n3.length = t1.1.length) (g5 : (t5.length : Int) ≤ 2 + 82 * n0)
  (h1 : ∀ (a0 : List Instr), ((a0.length : Int) ≤ 1970) → T P (H1 a0)),
  T P (fun K => Y75 m n0 t1 t2 n3 n4 t5 (fun a0 => H1 a0 K)) := by
 intro m
 induction m with
 | zero => intros; omega
 | succ m ih =>
  intro n0 t1 t2 n3 n4 t5 H1 g0 g1 g2 g3 g4 g5 h1
  rw [Y75]
  unfold Y75.body
  have := wr64 ((n0 + (1 : Int)))
  have := rb
  have := g3.1
  have hK := few25_code g3 (Int.toNat n0)
  have hR := few25_refs g3 (Int.toNat n0)
  repeat' first
   | (intro q; try subst q)
   | ((with_reducible first | refine h1 _ ?_ | refine ih ?_ ?_ ?_ ?_ ?_ ?_ h1 | refine Y6t_c ?_ ?_ | refine Y74_c ?_ ?_ ?_ ?_ ?_ ?_ ?_ ?_ ?_ ?_) <;> try (first | (simp only [List.length_append, List.length_cons, List.length_nil] <;> omega) | with_reducible rfl | assumption | omega | solve_by_elim [szL_get, szO_f, szO_d, szO_s]))
   | ((with_reducible refine tna ?_ ?_ ?_); omega; omega)
   | ((with_reducible refine tnb ?_ ?_); focus (first | omega | (first | (simp only [List.length_append, List.length_cons, List.length_nil] <;> omega) | with_reducible rfl | assumption | omega | solve_by_elim [szL_get, szO_f, szO_d, szO_s])))
   | ((with_reducible refine tn ?_ ?_); assumption)
   | (with_reducible first | refine Y6s_c ?_ | refine Y3n_c ?_ | refine Yr_c ?_ | refine tct ?_ | refine tcf ?_ | refine tcn ?_ | refine tcd ?_ ?_ | refine tcne ?_ ?_ | refine tc ?_ ?_)
theorem Y76_c {t0 : Prog} {t1 : Plan} {H1 : (List Instr) → (ι → O) → O} (g0 : few25 t0)
  (h1 : ∀ (a0 : List Instr), ((a0.length : Int) ≤ 1970) → T P (H1 a0)) :
  T P (fun K => Y76 t0 t1 (fun a0 => H1 a0 K)) := by
 unfold Y76 Y76.body
 have := rb
 have := g0.1
 repeat' first
  | (intro q; try subst q)
  | ((with_reducible first | refine h1 _ ?_ | refine Y6y_c ?_ ?_ | refine Y72_c ?_ ?_ | refine Y75_c ?_ ?_ ?_ ?_ ?_ ?_ ?_) <;> try (first | omega | (simp only [List.length_append, List.length_cons, List.length_nil] <;> omega) | with_reducible rfl | assumption | omega | solve_by_elim [szL_get, szO_f, szO_d, szO_s]))
  | (with_reducible first | refine tct ?_ | refine tcf ?_ | refine tc ?_ ?_)
set_option maxHeartbeats 4000000 in
theorem Y7b_c : ∀ {m : Nat} {n0 : Int} {n1 : Int} {t2 : Prog} {n3 : List Int} {n4 : List Int} {n5 : Int} {n6 : Int} {s7 : ByteArray} {n8 : Int} {l9 : List Int} {la : List Reloc} {lb : List Int} {H1 : Int → Prog → (List Int) → (List Int) → (ι → O) → O} (g0 : 0 ≤ n1) (g1 : n1 ≤ (((List.length l9) : Nat) : Int)) (g2 : (((List.length l9) : Nat) : Int) < n1 + m) (g3 : l9.length ≤ 80) (g4 : lb.length ≤ 80) (g5 : (n4.length : Int) ≤ 81 * n0 + 1 + n1) (g6 : 0 ≤ n0) (g7 : n0 ≤ 1000)
  (h1 : ∀ (a0 : Int) (a1 : Prog) (a2 : List Int) (a3 : List Int), n0 = a0 → t2 = a1 → n3 = a2 → ((a3.length : Int) ≤ 81 * n0 + 81) → T P (H1 a0 a1 a2 a3)),
  T P (fun K => Y7b m n0 n1 t2 n3 n4 n5 n6 s7 n8 l9 la lb (fun a0 a1 a2 a3 => H1 a0 a1 a2 a3 K)) := by
 intro m
 induction m with
 | zero => intros; omega
 | succ m ih =>
  intro n0 n1 t2 n3 n4 n5 n6 s7 n8 l9 la lb H1 g0 g1 g2 g3 g4 g5 g6 g7 h1
  rw [Y7b]
  unfold Y7b.body
  have := wr64 ((n1 + (1 : Int)))
  repeat' first
   | (intro q; try subst q)
   | ((with_reducible first | refine h1 _ _ _ _ ?_ ?_ ?_ ?_ | refine ih ?_ ?_ ?_ ?_ ?_ ?_ ?_ ?_ h1 | refine Y3o_c ?_ ?_ ?_ ?_) <;> try (first | (simp only [List.length_append, List.length_cons, List.length_nil] <;> omega) | with_reducible rfl | assumption | omega | solve_by_elim [szL_get, szO_f, szO_d, szO_s]))
   | ((with_reducible refine tna ?_ ?_ ?_); omega; omega)
   | ((with_reducible refine tnb ?_ ?_); focus (first | omega | (first | (simp only [List.length_append, List.length_cons, List.length_nil] <;> omega) | with_reducible rfl | assumption | omega | solve_by_elim [szL_get, szO_f, szO_d, szO_s])))
   | ((with_reducible refine tn ?_ ?_); assumption)
   | (with_reducible first | refine tct ?_ | refine tcf ?_ | refine tcn ?_ | refine tcd ?_ ?_ | refine tcne ?_ ?_ | refine tc ?_ ?_)
theorem Y7c_c : ∀ {m : Nat} {n0 : Int} {t1 : Prog} {n2 : List Int} {n3 : List Int} {H1 : (List Int) → (ι → O) → O} (g0 : 0 ≤ n0) (g1 : n0 ≤ (((List.length t1.2.1) : Nat) : Int)) (g2 : (((List.length t1.2.1) : Nat) : Int) < n0 + m) (g3 : few25 t1) (g4 : (n3.length : Int) ≤ 81 * n0)
  (h1 : ∀ (a0 : List Int), ((a0.length : Int) ≤ 1944) → T P (H1 a0)),
  T P (fun K => Y7c m n0 t1 n2 n3 (fun a0 => H1 a0 K)) := by
 intro m
 induction m with
 | zero => intros; omega
 | succ m ih =>
  intro n0 t1 n2 n3 H1 g0 g1 g2 g3 g4 h1
  rw [Y7c]
  unfold Y7c.body
  have := wr64 ((n0 + (1 : Int)))
  have := rb
  have := g3.2.1
  have hK := few25_words g3 (Int.toNat n0)
  have hR := few25_drefs g3 (Int.toNat n0)
  repeat' first
   | (intro q; try subst q)
   | ((with_reducible first | refine h1 _ ?_ | refine ih ?_ ?_ ?_ ?_ ?_ h1 | refine Y7b_c ?_ ?_ ?_ ?_ ?_ ?_ ?_ ?_ ?_) <;> try (first | (simp only [List.length_append, List.length_cons, List.length_nil] <;> omega) | with_reducible rfl | assumption | omega | solve_by_elim [szL_get, szO_f, szO_d, szO_s]))
   | ((with_reducible refine tna ?_ ?_ ?_); omega; omega)
   | ((with_reducible refine tnb ?_ ?_); focus (first | omega | (first | (simp only [List.length_append, List.length_cons, List.length_nil] <;> omega) | with_reducible rfl | assumption | omega | solve_by_elim [szL_get, szO_f, szO_d, szO_s])))
   | ((with_reducible refine tn ?_ ?_); assumption)
   | (with_reducible first | refine tct ?_ | refine tcf ?_ | refine tcd ?_ ?_ | refine tc ?_ ?_)
theorem Y7d_c {t0 : Prog} {t1 : Plan} {H1 : (List Int) → (ι → O) → O} (g0 : few25 t0)
  (h1 : ∀ (a0 : List Int), ((a0.length : Int) ≤ 1944) → T P (H1 a0)) :
  T P (fun K => Y7d t0 t1 (fun a0 => H1 a0 K)) := by
 unfold Y7d Y7d.body
 have := rb
 have := g0.2.1
 repeat' first
  | (intro q; try subst q)
  | ((with_reducible first | refine h1 _ ?_ | refine Y6y_c ?_ ?_ | refine Y7c_c ?_ ?_ ?_ ?_ ?_ ?_) <;> try (first | (simp only [List.length_append, List.length_cons, List.length_nil] <;> omega) | with_reducible rfl | assumption | omega | solve_by_elim [szL_get, szO_f, szO_d, szO_s]))
  | (with_reducible first | refine tct ?_ | refine tcf ?_ | refine tc ?_ ?_)
theorem Y7e_c : ∀ {m : Nat} {n0 : Int} {t1 : Prog} {t2 : Plan} {t3 : List (Int × Int × Int × Int × Int × Int × Unit)} {H1 : (List (Int × Int × Int × Int × Int × Int × Unit)) → (ι → O) → O} (g0 : 0 ≤ n0) (g1 : n0 ≤ (((List.length t1.1) : Nat) : Int)) (g2 : (((List.length t1.1) : Nat) : Int) < n0 + m) (g3 : few25 t1) (g4 : (t3.length : Int) ≤ n0)
  (h1 : ∀ (a0 : List (Int × Int × Int × Int × Int × Int × Unit)), ((a0.length : Int) ≤ 24) → T P (H1 a0)),
  T P (fun K => Y7e m n0 t1 t2 t3 (fun a0 => H1 a0 K)) := by
 intro m
 induction m with
 | zero => intros; omega
 | succ m ih =>
  intro n0 t1 t2 t3 H1 g0 g1 g2 g3 g4 h1
  rw [Y7e]
  unfold Y7e.body
  have := wr64 ((n0 + (1 : Int)))
  have := g3.1
  repeat' first
   | (intro q; try subst q)
   | ((with_reducible first | refine h1 _ ?_ | refine ih ?_ ?_ ?_ ?_ ?_ h1 | refine Y6w_c ?_ ?_ ?_ ?_) <;> try (first | (simp only [List.length_append, List.length_cons, List.length_nil] <;> omega) | with_reducible rfl | assumption | omega | solve_by_elim [szL_get, szO_f, szO_d, szO_s]))
   | ((with_reducible refine tna ?_ ?_ ?_); omega; omega)
   | ((with_reducible refine tnb ?_ ?_); focus (first | omega | (first | (simp only [List.length_append, List.length_cons, List.length_nil] <;> omega) | with_reducible rfl | assumption | omega | solve_by_elim [szL_get, szO_f, szO_d, szO_s])))
   | ((with_reducible refine tn ?_ ?_); assumption)
   | (with_reducible first | refine Y6s_c ?_ | refine Y3n_c ?_ | refine tct ?_ | refine tcf ?_ | refine tcn ?_ | refine tcd ?_ ?_ | refine tc ?_ ?_)
theorem Y7f_c {t0 : Prog} {t1 : Plan} {H1 : (List (Int × Int × Int × Int × Int × Int × Unit)) → (ι → O) → O} (g0 : few25 t0)
  (h1 : ∀ (a0 : List (Int × Int × Int × Int × Int × Int × Unit)), ((a0.length : Int) ≤ 24) → T P (H1 a0)) :
  T P (fun K => Y7f t0 t1 (fun a0 => H1 a0 K)) := by
 unfold Y7f Y7f.body
 have := rb
 have := g0.1
 repeat' first
  | (intro q; try subst q)
  | ((with_reducible first | refine h1 _ ?_ | refine Y7e_c ?_ ?_ ?_ ?_ ?_ ?_) <;> try (first | exact Int.le_refl _ | with_reducible rfl | assumption | omega | solve_by_elim [szL_get, szO_f, szO_d, szO_s]))
  | (with_reducible first | refine tct ?_ | refine tcf ?_ | refine tc ?_ ?_)
theorem Y7g_c : ∀ {m : Nat} {n0 : Int} {n1 : Int} {n2 : Int} {t3 : Prog} {t4 : Plan} {t5 : List (Int × Int × Bool × Int × Unit)} {n6 : Int} {l7 : List Int} {n8 : Int} {b9 : Bool} {na : Int} {nb : Int} {lc : List Line} {ld : List Instr} {le : List Reloc} {H1 : Int → Int → Prog → Plan → (List (Int × Int × Bool × Int × Unit)) → Int → (List Int) → Int → Bool → Int → Int → (List Line) → (List Instr) → (List Reloc) → (ι → O) → O} (g0 : 0 ≤ n2) (g1 : n2 ≤ (sizeV t3 t4 n1)) (g2 : (sizeV t3 t4 n1) < n2 + m) (g3 : few25 t3) (g4 : 0 ≤ n1) (g5 : n1 ≤ 1000) (g6 : (t5.length : Int) ≤ 2 + 82 * n1 + n2 - (ld.length : Int))
  (h1 : ∀ (a0 : Int) (a1 : Int) (a2 : Prog) (a3 : Plan) (a4 : List (Int × Int × Bool × Int × Unit)) (a5 : Int) (a6 : List Int) (a7 : Int) (a8 : Bool) (a9 : Int) (a10 : Int) (a11 : List Line) (a12 : List Instr) (a13 : List Reloc), n0 = a0 → n1 = a1 → t3 = a2 → t4 = a3 → n6 = a5 → l7 = a6 → n8 = a7 → b9 = a8 → na = a9 → nb = a10 → lc = a11 → ld = a12 → le = a13 → ((a4.length : Int) ≤ 84 + 82 * n1 - (ld.length : Int)) → T P (H1 a0 a1 a2 a3 a4 a5 a6 a7 a8 a9 a10 a11 a12 a13)),
  T P (fun K => Y7g m n0 n1 n2 t3 t4 t5 n6 l7 n8 b9 na nb lc ld le (fun a0 a1 a2 a3 a4 a5 a6 a7 a8 a9 a10 a11 a12 a13 => H1 a0 a1 a2 a3 a4 a5 a6 a7 a8 a9 a10 a11 a12 a13 K)) := by
 intro m
 induction m with
 | zero => intros; omega
 | succ m ih =>
  intro n0 n1 n2 t3 t4 t5 n6 l7 n8 b9 na nb lc ld le H1 g0 g1 g2 g3 g4 g5 g6 h1
  rw [Y7g]
  unfold Y7g.body
  have := wr64 ((n2 + (1 : Int)))
  have hb := sizeV_b (plan := t4) (i := n1) g3
  repeat' first
   | (intro q; try subst q)
   | ((with_reducible first | refine h1 _ _ _ _ _ _ _ _ _ _ _ _ _ _ ?_ ?_ ?_ ?_ ?_ ?_ ?_ ?_ ?_ ?_ ?_ ?_ ?_ ?_ | refine ih ?_ ?_ ?_ ?_ ?_ ?_ ?_ h1) <;> try (first | (simp only [List.length_append, List.length_cons, List.length_nil] <;> omega) | with_reducible rfl | assumption | omega | solve_by_elim [szL_get, szO_f, szO_d, szO_s]))
   | ((with_reducible refine tnb ?_ ?_); focus (first | omega | (first | (simp only [List.length_append, List.length_cons, List.length_nil] <;> omega) | with_reducible rfl | assumption | omega | solve_by_elim [szL_get, szO_f, szO_d, szO_s])))
   | ((with_reducible refine tn ?_ ?_); assumption)
   | (with_reducible first | refine Y6u_c ?_ | refine tct ?_ | refine tcf ?_ | refine tcd ?_ ?_ | refine tc ?_ ?_)
theorem Y7h_c : ∀ {m : Nat} {n0 : Int} {n1 : Int} {n2 : Int} {t3 : Prog} {t4 : Plan} {t5 : List (Int × Int × Bool × Int × Unit)} {n6 : Int} {l7 : List Int} {n8 : Int} {b9 : Bool} {na : Int} {nb : Int} {lc : List Line} {ld : List Instr} {le : List Reloc} {H1 : Int → Int → Prog → Plan → (List (Int × Int × Bool × Int × Unit)) → (ι → O) → O} (g0 : 0 ≤ n2) (g1 : n2 ≤ (((List.length ld) : Nat) : Int)) (g2 : (((List.length ld) : Nat) : Int) < n2 + m) (g3 : lc.length ≤ 80) (g4 : ld.length ≤ 80) (g5 : 0 ≤ n1) (g6 : n1 ≤ 1000) (g7 : (t5.length : Int) ≤ 84 + 82 * n1 - (ld.length : Int) + n2)
  (h1 : ∀ (a0 : Int) (a1 : Int) (a2 : Prog) (a3 : Plan) (a4 : List (Int × Int × Bool × Int × Unit)), n0 = a0 → n1 = a1 → t3 = a2 → t4 = a3 → ((a4.length : Int) ≤ 84 + 82 * n1) → T P (H1 a0 a1 a2 a3 a4)),
  T P (fun K => Y7h m n0 n1 n2 t3 t4 t5 n6 l7 n8 b9 na nb lc ld le (fun a0 a1 a2 a3 a4 => H1 a0 a1 a2 a3 a4 K)) := by
 intro m
 induction m with
 | zero => intros; omega
 | succ m ih =>
  intro n0 n1 n2 t3 t4 t5 n6 l7 n8 b9 na nb lc ld le H1 g0 g1 g2 g3 g4 g5 g6 g7 h1
  rw [Y7h]
  unfold Y7h.body
  have := wr64 ((n2 + (1 : Int)))
  repeat' first
   | (intro q; try subst q)
   | ((with_reducible first | refine h1 _ _ _ _ _ ?_ ?_ ?_ ?_ ?_ | refine ih ?_ ?_ ?_ ?_ ?_ ?_ ?_ ?_ h1 | refine Y3x_c ?_ ?_) <;> try (first | (simp only [List.length_append, List.length_cons, List.length_nil] <;> omega) | with_reducible rfl | assumption | omega | solve_by_elim [szL_get, szO_f, szO_d, szO_s]))
   | ((with_reducible refine tnb ?_ ?_); focus (first | omega | (first | (simp only [List.length_append, List.length_cons, List.length_nil] <;> omega) | with_reducible rfl | assumption | omega | solve_by_elim [szL_get, szO_f, szO_d, szO_s])))
   | ((with_reducible refine tn ?_ ?_); assumption)
   | (with_reducible first | refine Y3n_c ?_ | refine Y26_c ?_ | refine tct ?_ | refine tcf ?_ | refine tcd ?_ ?_ | refine tc ?_ ?_)
set_option maxHeartbeats 4000000 in
theorem Y7i_c : ∀ {m : Nat} {n0 : Int} {n1 : Int} {t2 : Prog} {t3 : Plan} {t4 : List (Int × Int × Bool × Int × Unit)} {H1 : (List (Int × Int × Bool × Int × Unit)) → (ι → O) → O} (g0 : 0 ≤ n1) (g1 : n1 ≤ (((List.length t2.1) : Nat) : Int)) (g2 : (((List.length t2.1) : Nat) : Int) < n1 + m) (g3 : few25 t2) (g4 : (t4.length : Int) ≤ 2 + 82 * n1)
  (h1 : ∀ (a0 : List (Int × Int × Bool × Int × Unit)), ((a0.length : Int) ≤ 1970) → T P (H1 a0)),
  T P (fun K => Y7i m n0 n1 t2 t3 t4 (fun a0 => H1 a0 K)) := by
 intro m
 induction m with
 | zero => intros; omega
 | succ m ih =>
  intro n0 n1 t2 t3 t4 H1 g0 g1 g2 g3 g4 h1
  rw [Y7i]
  unfold Y7i.body
  have := wr64 ((n1 + (1 : Int)))
  have := wr64 ((n0 + (1 : Int)))
  have := rb
  have := g3.1
  have hW := w_size (plan := t3) (i := n1) g3
  have hK := few25_code g3 (Int.toNat n1)
  have hN := few25_lines g3 (Int.toNat n1)
  have hb := sizeV_b (plan := t3) (i := n1) g3
  repeat' first
   | (intro q; try subst q)
   | ((with_reducible first | refine h1 _ ?_ | refine ih ?_ ?_ ?_ ?_ ?_ h1 | refine Y7g_c ?_ ?_ ?_ ?_ ?_ ?_ ?_ ?_ | refine Y7h_c ?_ ?_ ?_ ?_ ?_ ?_ ?_ ?_ ?_) <;> try (first | (have hz := size_of_yes g3 (by assumption); have hz2 := hW hz; omega) | (simp only [List.length_append, List.length_cons, List.length_nil] <;> omega) | with_reducible rfl | assumption | omega | solve_by_elim [szL_get, szO_f, szO_d, szO_s]))
   | ((with_reducible refine tna ?_ ?_ ?_); omega; omega)
   | ((with_reducible refine tn ?_ ?_); assumption)
   | (with_reducible first | refine Y6s_c ?_ | refine tct ?_ | refine tcf ?_ | refine tcn ?_ | refine tcd ?_ ?_ | refine tc ?_ ?_)
theorem Y7j_c {t0 : Prog} {t1 : Plan} {H1 : (List (Int × Int × Bool × Int × Unit)) → (ι → O) → O} (g0 : few25 t0)
  (h1 : ∀ (a0 : List (Int × Int × Bool × Int × Unit)), ((a0.length : Int) ≤ 1970) → T P (H1 a0)) :
  T P (fun K => Y7j t0 t1 (fun a0 => H1 a0 K)) := by
 unfold Y7j Y7j.body
 have := rb
 have := g0.1
 repeat' first
  | (intro q; try subst q)
  | ((with_reducible first | refine h1 _ ?_ | refine Y7i_c ?_ ?_ ?_ ?_ ?_ ?_) <;> try (first | (simp only [List.length_append, List.length_cons, List.length_nil] <;> omega) | with_reducible rfl | assumption | omega | solve_by_elim [szL_get, szO_f, szO_d, szO_s]))
  | (with_reducible first | refine tct ?_ | refine tcf ?_ | refine tc ?_ ?_)
theorem Y7k_c {t0 : Prog} {t1 : Plan} {H1 : (List (Int × Int × Int × Bool × Int × Unit)) → (ι → O) → O} (g0 : few25 t0)
  (h1 : ∀ (a0 : List (Int × Int × Int × Bool × Int × Unit)), ((a0.length : Int) ≤ 1970) → T P (H1 a0)) :
  T P (fun K => Y7k t0 t1 (fun a0 => H1 a0 K)) := by
 unfold Y7k Y7k.body
 repeat' first
  | (intro q; try subst q)
  | ((with_reducible first | refine h1 _ ?_ | refine Y7j_c ?_ ?_ | refine Y42_c ?_ ?_) <;> try (first | with_reducible rfl | assumption | omega | solve_by_elim [szL_get, szO_f, szO_d, szO_s]))
  | (with_reducible first | refine tct ?_ | refine tcf ?_ | refine tc ?_ ?_)
theorem Y7l_c {t0 : Prog} {t1 : Plan} {H1 : Int → (List Instr) → (List Int) → (List (Int × Int × Int × Int × Int × Int × Unit)) → (List (Int × Int × Int × Bool × Int × Unit)) → (ι → O) → O} (g0 : few25 t0)
  (h1 : ∀ (a0 : Int) (a1 : List Instr) (a2 : List Int) (a3 : List (Int × Int × Int × Int × Int × Int × Unit)) (a4 : List (Int × Int × Int × Bool × Int × Unit)), ((a1.length : Int) ≤ 1970) → ((a2.length : Int) ≤ 1944) → ((a3.length : Int) ≤ 24) → ((a4.length : Int) ≤ 1970) → T P (H1 a0 a1 a2 a3 a4)) :
  T P (fun K => Y7l t0 t1 (fun a0 a1 a2 a3 a4 => H1 a0 a1 a2 a3 a4 K)) := by
 unfold Y7l Y7l.body
 repeat' first
  | (intro q; try subst q)
  | ((with_reducible first | refine h1 _ _ _ _ _ ?_ ?_ ?_ ?_ | refine Y76_c ?_ ?_ | refine Y7d_c ?_ ?_ | refine Y7f_c ?_ ?_ | refine Y7k_c ?_ ?_ | refine Y6y_c ?_ ?_) <;> try (first | with_reducible rfl | assumption | omega | solve_by_elim [szL_get, szO_f, szO_d, szO_s]))
  | ((with_reducible refine tna ?_ ?_ ?_); omega; omega)
  | ((with_reducible refine tn ?_ ?_); assumption)
  | (with_reducible first | refine tct ?_ | refine tcf ?_ | refine tcd ?_ ?_ | refine tc ?_ ?_)
theorem law35_PackShort_c {l : List Obj} {plan : Plan} {n : Int} {H1 : Bool → (ι → O) → O} (g0 : okLs l) (h1 : T P (H1 true)) : T P (fun K => law35_PackShort l plan n (fun b => H1 b K)) := by
 unfold law35_PackShort law35_PackShort.body
 refine Y37_c g0 (fun p b hb => tcn (tc (fun hb2 => ?_) (fun _ => h1.eq fun K => PK.kn _)))
 refine Y7l_c (hb hb2) (fun e c w f r hc hw hf hr => h1.eq fun K => ?_)
 have ht : PK.FewM (c, w, f, r, e, ()) := ⟨by show c.length ≤ _; omega, by show w.length ≤ _; omega, by show f.length ≤ _; omega, by show r.length ≤ _; omega⟩
 have hl := PK.encM_len (c, w, f, r, e, ())
 dsimp only at hl
 refine (PK.rmput_ (c, w, f, r, e, ()) ht _).trans ?_
 generalize hM : PK.encM (c, w, f, r, e, ()) = M at *
 have h4 : (PK.bts (PK.sumOf M) 4).length = 4 := PK.bts_len _ _
 by_cases c1 : n < 0
 ·refine (cond_neg (by rw [dt c1]; rfl)).trans (PK.kn _)
 ·refine (cond_pos (by rw [df c1]; rfl)).trans ?_
  have e1 : IntKind.wrap .i64 (((M ++ PK.bts (PK.sumOf M) 4).length : Int) - 4) = (M.length : Int) := by
   rw [List.length_append, h4, w64 (by omega) (by omega)]; omega
  rw [e1]
  by_cases c2 : n ≥ (M.length : Int)
  ·exact (cond_pos (dt c2)).trans (PK.kn _)
  ·refine (cond_neg (df c2)).trans ((cond_pos (by rw [dt (by omega), dt (by rw [List.length_append]; omega)]; rfl)).trans ?_)
   have e2 : List.take (Int.toNat (n - 0)) (List.drop 0 (M ++ PK.bts (PK.sumOf M) 4)) = M.take n.toNat := by
    rw [List.drop_zero, Int.sub_zero, List.take_append_of_le_length (by omega)]
   rw [e2, PK.rseal_ (hM ▸ PK.bytesOk_take (PK.encM_ok _) _) (by rw [List.length_take]; omega)]
   have hg := PK.get_cut (c, w, f, r, e, ()) ht (L := n.toNat) (by rw [hM]; omega) (by rw [hM]; omega)
   rw [hM] at hg
   refine (hg _).trans ?_
   refine (cond_pos rfl).trans ?_
   exact (PK.same0 _).trans ((cond_pos rfl).trans (PK.kn _))
theorem okLs_of {l : List Obj} (h : okD (.sl 87 Ty29) l) : okLs l := by
 have h' := okD_sl.1 h
 refine ⟨h'.1, fun o ho => ?_⟩
 have a := okDs_cons.1 (okD_st.1 (h'.2 o ho))
 have b := okDs_cons.1 a.2
 have c := okDs_cons.1 b.2
 exact ⟨(okD_sl.1 a.1).1, (okD_sl.1 b.1).1, (okD_sl.1 c.1).1⟩
theorem holds (l : List Obj) (plan : Plan) (n : Int) (h0 : okD (.sl 87 Ty29) l) (h1 : okD Ty8 plan) (h2 : okD (.int .i64) n) : law35_PackShort l plan n (fun y => some y) = some true :=
 (law35_PackShort_c (ι := Bool) (P := fun b => b = true) (H1 := fun a K => K a) (okLs_of h0) (T.leaf rfl)).use (K := fun y => some y) (fun i hi => congrArg some hi)

end Go.Proofs.YthlclmhicgefpaaGreat.packShort
