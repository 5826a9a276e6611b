-- Written by a program of this work (the print, with parts of our own); Lean checks it.
import Derived.Test.YtbplnfklimhdaaaPGx0
import Derived.Test.YtbplnfklimhdaaaPGx1
namespace Go.Proofs.Ytbplnfklimhdaaa.PG
open Go.RowKit Go.Proofs.YtbplnfklimhdaaaW.PrintWords Go.Proofs.YtbplnfklimhdaaaW.PrintLast Go.Proofs.YtbplnfklimhdaaaW.PrintMore
attribute [local go_sem] max2_int min2_int max_two min_two max_three min_three max_four min_four   -- for this text's walks alone
set_option linter.unusedVariables false
set_option linter.unusedSimpArgs false

/-! ### sum_Open: function 7 -/
def sum_Open.f (l0 : List Int) : Option (List Int × Int) := if (wrap64 ((l0.length : Int) - 4)) < 0 then (some (([] : List Int), 5)) else (if 0 ≤ (wrap64 ((l0.length : Int) - 4)) then (if (wrap64 ((l0.length : Int) - 4)) ≤ (l0.length : Int) then ((octet_New.f (l0.drop ((wrap64 ((l0.length : Int) - 4)) : Int).toNat)).bind fun bt103 => ((octet_Reader_Num.f bt103.1 bt103.2.1 bt103.2.2.1 bt103.2.2.2 4).bind fun bt108 => ((sum_Of.f (l0.take ((wrap64 ((l0.length : Int) - 4)) : Int).toNat)).bind fun t113 => (if bt108.1 = t113 then ((some (([] : List Int) : List Int)).bind fun y114 => (if y114.length + (l0.take ((wrap64 ((l0.length : Int) - 4)) : Int).toNat).length < 140737488355328 then (some ((y114 ++ (l0.take ((wrap64 ((l0.length : Int) - 4)) : Int).toNat)), 0)) else (none))) else (some (([] : List Int), 4)))))) else (none)) else (none))
set_option maxHeartbeats 8000000 in
set_option maxRecDepth 100000 in
theorem sum_Open.calls (A0 : Option Addr) (c0 : Nat) (l0 : List Int) (r1 : List Int) (r2 : Int) (w : World) (hr0 : Kd.C (Kd.int .u8) w A0 l0.length l0) (hc0 : l0.length ≤ c0) (h : sum_Open.f l0 = some (r1, r2)) :
    Calls Try.prog 7 #[.slice A0 l0.length c0] w fun e w' => ∃ v0_ : Value, e = .returned (.tuple #[v0_, .int .i64 r2]) ∧ Kd.R (Kd.int .u8) 5 w' w.heap.size (fun _ => True) v0_ r1 ∧ Below w.heap.size w w' := by
  have HR0 := Aside0.mk hr0
  have HC0 := Aside0.mk hc0
  clear hr0 hc0
  have HB := Aside0.mk (Below.refl w.heap.size w)
  have H : (if (wrap64 ((l0.length : Int) - 4)) < 0 then (some (([] : List Int), 5)) else (if 0 ≤ (wrap64 ((l0.length : Int) - 4)) then (if (wrap64 ((l0.length : Int) - 4)) ≤ (l0.length : Int) then ((octet_New.f (l0.drop ((wrap64 ((l0.length : Int) - 4)) : Int).toNat)).bind fun bt103 => ((octet_Reader_Num.f bt103.1 bt103.2.1 bt103.2.2.1 bt103.2.2.2 4).bind fun bt108 => ((sum_Of.f (l0.take ((wrap64 ((l0.length : Int) - 4)) : Int).toNat)).bind fun t113 => (if bt108.1 = t113 then ((some (([] : List Int) : List Int)).bind fun y114 => (if y114.length + (l0.take ((wrap64 ((l0.length : Int) - 4)) : Int).toNat).length < 140737488355328 then (some ((y114 ++ (l0.take ((wrap64 ((l0.length : Int) - 4)) : Int).toNat)), 0)) else (none))) else (some (([] : List Int), 4)))))) else (none)) else (none))) = some (r1, r2) := h
  clear h
  by_cases c2 : (wrap64 ((l0.length : Int) - 4)) < 0
  · rw [if_pos c2] at H
    have c2b0 : decide ((wrap64 ((l0.length : Int) - 4)) < 0) = true := decide_eq_true c2
    clear c2
    simp only [Option.some.injEq, Prod.mk.injEq] at H
    obtain ⟨rfl, rfl⟩ := H
    go_enter Try.func7, Try.ntmps7
    go_wp2
    go_ret2
    exact ⟨_, by first | rfl | (simp [errW_none, errW_some] <;> rfl) | (simp [*, errW_none, errW_some] <;> rfl), by first | exact Kd.R_nil _ _ _ _ _ | exact Kd.N_nil _ _ _ _ _ | exact Kd.V_nil _ _ _ _ _ | exact Kd.Q_nil _ _ _ _ _ | exact Kd.S_nil _ _ _ _ _, by repeat (first | (with_reducible first | exact HB.out | apply below_alloc | apply pw_below_drewN | apply below_drew1) | exact HB.out)⟩
  · rw [if_neg c2] at H
    have c2b0 : decide ((wrap64 ((l0.length : Int) - 4)) < 0) = false := decide_eq_false c2
    clear c2
    obtain ⟨ji3, hji3⟩ : ∃ j_ : Int, (wrap64 ((l0.length : Int) - 4)) = j_ := ⟨_, rfl⟩
    replace H : (if 0 ≤ (ji3) then (if (ji3) ≤ (l0.length : Int) then ((octet_New.f (l0.drop ((ji3) : Int).toNat)).bind fun bt103 => ((octet_Reader_Num.f bt103.1 bt103.2.1 bt103.2.2.1 bt103.2.2.2 4).bind fun bt108 => ((sum_Of.f (l0.take ((ji3) : Int).toNat)).bind fun t113 => (if bt108.1 = t113 then ((some (([] : List Int) : List Int)).bind fun y114 => (if y114.length + (l0.take ((ji3) : Int).toNat).length < 140737488355328 then (some ((y114 ++ (l0.take ((ji3) : Int).toNat)), 0)) else (none))) else (some (([] : List Int), 4)))))) else (none)) else (none)) = some (r1, r2) := by first | (rw [hji3] at H; exact H) | (simp only [hji3] at H ⊢; exact H)
    (try rw [hji3] at c2b0)
    have hji3w : (IntKind.i64.wrap ((l0.length : Int) - 4)) = ji3 := (i64_w _).trans hji3
    by_cases c4 : 0 ≤ (ji3)
    · rw [if_pos c4] at H
      have c4b0 := eq_true c4
      have c4b1 : decide (0 ≤ (ji3)) = true := decide_eq_true c4
      clear c4
      by_cases c5 : (ji3) ≤ (l0.length : Int)
      · rw [if_pos c5] at H
        have c5b0 := eq_true c5
        have c5b1 : decide ((ji3) ≤ (l0.length : Int)) = true := decide_eq_true c5
        clear c5
        replace H := Option.bind_eq_some_iff.mp H
        obtain ⟨⟨t103, t104, t105, t106⟩, A60, H⟩ := H
        replace H : ((octet_Reader_Num.f t103 t104 t105 t106 4).bind fun bt108 => ((sum_Of.f (l0.take ((ji3) : Int).toNat)).bind fun t113 => (if bt108.1 = t113 then ((some (([] : List Int) : List Int)).bind fun y114 => (if y114.length + (l0.take ((ji3) : Int).toNat).length < 140737488355328 then (some ((y114 ++ (l0.take ((ji3) : Int).toNat)), 0)) else (none))) else (some (([] : List Int), 4))))) = some (r1, r2) := H
        have A6 := Aside0.mk A60
        clear A60
        replace H := Option.bind_eq_some_iff.mp H
        obtain ⟨⟨t108, t109, t110, t111⟩, A70, H⟩ := H
        replace H : ((sum_Of.f (l0.take ((ji3) : Int).toNat)).bind fun t113 => (if t108 = t113 then ((some (([] : List Int) : List Int)).bind fun y114 => (if y114.length + (l0.take ((ji3) : Int).toNat).length < 140737488355328 then (some ((y114 ++ (l0.take ((ji3) : Int).toNat)), 0)) else (none))) else (some (([] : List Int), 4)))) = some (r1, r2) := H
        have A7 := Aside0.mk A70
        clear A70
        have c8b0 := eq_true (of_decide_eq_true (by first | (with_reducible assumption) | assumption) : 0 ≤ (ji3))
        have c9b0 := eq_true (of_decide_eq_true (by first | (with_reducible assumption) | assumption) : (ji3) ≤ (l0.length : Int))
        replace H := Option.bind_eq_some_iff.mp H
        obtain ⟨t113, A100, H⟩ := H
        replace H : (if t108 = t113 then ((some (([] : List Int) : List Int)).bind fun y114 => (if y114.length + (l0.take ((ji3) : Int).toNat).length < 140737488355328 then (some ((y114 ++ (l0.take ((ji3) : Int).toNat)), 0)) else (none))) else (some (([] : List Int), 4))) = some (r1, r2) := H
        have A10 := Aside0.mk A100
        clear A100
        by_cases c11 : t108 = t113
        · rw [if_pos c11] at H
          have c11b0 : (t108 == t113) = true := beq_iff_eq.mpr c11
          have c11b1 : (t108 != t113) = false := bne_eq_false_iff_eq.mpr c11
          clear c11
          obtain ⟨y114, hy114⟩ : ∃ y_ : List Int, y_ = (([] : List Int)) := ⟨_, rfl⟩
          replace H : (if y114.length + (l0.take ((ji3) : Int).toNat).length < 140737488355328 then (some ((y114 ++ (l0.take ((ji3) : Int).toNat)), 0)) else (none)) = some (r1, r2) := by first | (rw [hy114]; with_reducible exact H) | (have H2_ := (Option.bind_some _ _).symm.trans H; rw [hy114]; with_reducible exact H2_) | (have H2_ := (Option.bind_some _ _).symm.trans H; with_reducible exact H2_) | with_reducible exact H | (rw [hy114]; exact H) | exact H
          have Ny114 := Aside0.mk hy114
          clear hy114
          have c12b0 := eq_true (of_decide_eq_true (by first | (with_reducible assumption) | assumption) : 0 ≤ (ji3))
          have c13b0 := eq_true (of_decide_eq_true (by first | (with_reducible assumption) | assumption) : (ji3) ≤ (l0.length : Int))
          by_cases c14 : y114.length + (l0.take ((ji3) : Int).toNat).length < 140737488355328
          · rw [if_pos c14] at H
            have LMc14 := Aside0.mk c14
            clear c14
            obtain ⟨y118, hy118⟩ : ∃ y_ : List Int, y_ = (y114 ++ (l0.take ((ji3) : Int).toNat)) := ⟨_, rfl⟩
            replace H : (some (y118, 0)) = some (r1, r2) := by first | (rw [hy118]; with_reducible exact H) | (have H2_ := (Option.bind_some _ _).symm.trans H; rw [hy118]; with_reducible exact H2_) | (have H2_ := (Option.bind_some _ _).symm.trans H; with_reducible exact H2_) | with_reducible exact H | (rw [hy118]; exact H) | exact H
            have Ny118 := Aside0.mk hy118
            clear hy118
            simp only [Option.some.injEq, Prod.mk.injEq] at H
            obtain ⟨rfl, rfl⟩ := H
            obtain ⟨i015, hi015, _, hsz15, _⟩ := info_parts info5
            obtain ⟨A15, hcut15, hA15, hC15⟩ := print_drop_of (P := Try.prog) (Value.int .u8) 0 22 5 .i64 Try.underlying22 hi015 hsz15 A0 c0 l0 (ji3) (of_decide_eq_true (by first | (with_reducible assumption) | assumption)) (of_decide_eq_true (by first | (with_reducible assumption) | assumption)) HC0.out
            have HR102 := Aside0.mk (Kd.C_of_reads (h1 := fun _ => rfl) (hA15 _ (Kd.reads_of_C HR0.out)))
            have HC102 := Aside0.mk hC15
            clear hA15 hC15 hi015 hsz15
            go_enter Try.func7, Try.ntmps7
            try go_wp2_with (first | ((with_reducible refine gate_callee (f := 16) rfl ?_); refine goesL_ (some 14) rfl rfl Try.func16 (by kernel_rfl) rfl #[.slice A15 (l0.drop ((ji3) : Int).toNat).length (c0 - (ji3).toNat)] rfl (by (try simp only [List.map_toArray, List.map_cons, List.map_nil]); first | done | (rw [show (l0.drop ((ji3) : Int).toNat).length = (l0.length - (ji3).toNat) from List.length_drop] <;> rfl) | (simp only [hji3]; rfl) | rfl | (simp only [List.length_drop, List.length_take]; rfl)) ?_; (with_reducible refine (octet_New.calls _ _ (l0.drop ((ji3) : Int).toNat) t103 t104 t105 t106 w _ ?side1 ?side2 ?side3 A6.out).mono ?_); (case side1 => repeat (first | (with_reducible first | exact HB.out | apply below_alloc | apply pw_below_drewN | apply below_drew1) | exact HB.out)); (case side2 => exact HR102.out); (case side3 => exact HC102.out); rintro e w16 ⟨g107, rfl, hi, hb, hb2⟩; refine ⟨_, rfl, ?_⟩; have n0_ := Aside0.mk (hb); have n1_ := Aside0.mk (hi); clear HB; have HB := n0_; have HI107 := n1_; clear n0_ n1_; (try clear hb); (try clear hb2); (try clear hk); (try clear hi)))
            have n0_ := Aside0.mk (IsS45.drew HI107.out)
            have n1_ := Aside0.mk (below_drew1 HB.out)
            clear HI107
            clear HB
            have HI107 := n0_
            have HB := n1_
            clear n0_ n1_
            obtain ⟨i018, hi018, _, hsz18, _⟩ := info_parts info5
            obtain ⟨hcut18, hA18, hC18⟩ := print_take_of (P := Try.prog) (Value.int .u8) 0 22 5 .i64 Try.underlying22 hi018 hsz18 A0 c0 l0 (ji3) (of_decide_eq_true (by first | (with_reducible assumption) | assumption)) (of_decide_eq_true (by first | (with_reducible assumption) | assumption)) HC0.out
            have HR112 := Aside0.mk (Kd.C_of_reads (h1 := fun _ => rfl) (hA18 _ (Kd.reads_of_C HR0.out)))
            have HC112 := Aside0.mk hC18
            clear hA18 hC18 hi018 hsz18
            refine start_ (n := 7) (S := fun w' => True) (ds := []) #[false, false, false, false, false, false, false] (by kernel_rfl) rfl rfl trivial (fun hHeld => ?_)
            generalize w16.drew = w17 at HI107 HB HR112 hHeld ⊢
            refine pure_ (i := 0) (N := some 15) (v := ?_) (a' := ?_) #[true, false, false, false, false, false, false] rfl rfl (by kernel_rfl) (fun _ _ _ h => h) (Or.inl ⟨by rfl, ?_⟩) ?_ ?_
            rotate_left
            · intro w'
              go_simp
              with_reducible rfl
            rotate_left
            · simp only [Act.put, List.setIfInBounds_toArray, List.set_cons_zero, List.set_cons_succ, i64_w, i32_w]
              rfl
            refine pure_ (i := 2) (N := some 17) (v := ?_) (a' := ?_) #[true, false, true, false, false, false, false] rfl rfl (by kernel_rfl) (fun _ _ _ h => h) (Or.inl ⟨by rfl, ?_⟩) ?_ ?_
            rotate_left
            · intro w'
              go_simp
              with_reducible rfl
            rotate_left
            · simp only [Act.put, List.setIfInBounds_toArray, List.set_cons_zero, List.set_cons_succ, i64_w, i32_w]
              rfl
            refine pure_ (i := 3) (N := some 18) (v := ?_) (a' := ?_) #[true, false, true, true, false, false, false] rfl rfl (by kernel_rfl) (fun _ _ _ h => h) (Or.inl ⟨by rfl, ?_⟩) ?_ ?_
            rotate_left
            · intro w'
              go_simp
              with_reducible rfl
            rotate_left
            · simp only [Act.put, List.setIfInBounds_toArray, List.set_cons_zero, List.set_cons_succ, i64_w, i32_w]
              rfl
            refine pure_ (i := 4) (N := some 19) (v := ?_) (a' := ?_) #[true, false, true, true, true, false, false] rfl rfl (by kernel_rfl) (fun _ _ _ h => h) (Or.inl ⟨by rfl, ?_⟩) ?_ ?_
            rotate_left
            · intro w'
              go_simp
              with_reducible rfl
            rotate_left
            · simp only [Act.put, List.setIfInBounds_toArray, List.set_cons_zero, List.set_cons_succ, i64_w, i32_w]
              rfl
            refine one_ (i := 1) (N := some 16) #[true, true, true, true, true, false, false] rfl rfl (by kernel_rfl) (by decide) (fun K hK => ?_)
            refine goes_ Try.func17 (by kernel_rfl) rfl #[.pointer (some ⟨g107, 0, none⟩), .int .i64 4] (by rfl) rfl rfl (by (try simp only [List.map_toArray, List.map_cons, List.map_nil]); first | done | rfl | (simp only [List.length_drop, List.length_take]; rfl)) ?_
            with_reducible refine (octet_Reader_Num.calls g107 t103 t104 t105 t106 4 t108 t109 t110 t111 w _ ?side1 ?side2 A7.out).mono ?_
            (case side1 => repeat (first | (with_reducible first | exact HI107.out | apply IsS45.alloc | apply IsS45.drewN | apply IsS45.drew | apply IsS45.set_1 | apply IsS45.set_2 | apply IsS45.set_3) | exact HI107.out))
            (case side2 => repeat (first | (with_reducible first | exact HB.out | apply below_alloc | apply pw_below_drewN | apply below_drew1 | refine below_set ?_ (IsS45.ge HI107.out)) | exact HB.out))
            rintro e w19 ⟨rfl, hi, hb, hk⟩
            refine ⟨_, rfl, ?_⟩
            have n0_ := Aside0.mk (hb)
            have n1_ := Aside0.mk (hi)
            clear HB
            clear HI107
            have HB := n0_
            have HI107 := n1_
            clear n0_ n1_
            (try clear hb)
            (try clear hb2)
            (try clear hk)
            (try clear hi)
            refine hK.out _ _ trivial (fun hHeld => ?_)
            clear hK K
            refine norm_ (a' := ?_) ?_ ?_
            rotate_left
            · show Act.put _ (some 16) _ = _
              simp only [Act.put, List.setIfInBounds_toArray, List.set_cons_zero, List.set_cons_succ, i64_w, i32_w]
              rfl
            refine one_ (i := 5) (N := some 20) #[true, true, true, true, true, true, false] rfl rfl (by kernel_rfl) (by decide) (fun K hK => ?_)
            refine goes_ Try.func9 (by kernel_rfl) rfl #[.slice A0 (l0.take ((ji3) : Int).toNat).length c0] (by rfl) rfl rfl (by (try simp only [List.map_toArray, List.map_cons, List.map_nil]); first | done | (rw [show (l0.take ((ji3) : Int).toNat).length = (ji3).toNat from (by rw [List.length_take]; have h_ : ((ji3) : Int) ≤ (l0.length : Int) := of_decide_eq_true (by first | (with_reducible assumption) | assumption); omega)] <;> rfl) | (simp only [hji3]; rfl) | rfl | (simp only [List.length_drop, List.length_take]; rfl)) ?_
            with_reducible refine (sum_Of.calls _ _ (l0.take ((ji3) : Int).toNat) t113 _ ?side1 ?side2 A10.out).mono ?_
            (case side1 => repeat (first | exact (Kd.C_below HR112.out HB.out) | (with_reducible refine Kd.C_alloc ?_ _) | (with_reducible refine Kd.C_drewN ?_ _) | (with_reducible refine Kd.C_drew ?_)))
            (case side2 => exact HC112.out)
            rintro e w20 ⟨rfl, hb⟩
            refine ⟨_, rfl, ?_⟩
            have n0_ := Aside0.mk (IsS45.below (by repeat (first | (with_reducible first | exact HI107.out | apply IsS45.alloc | apply IsS45.drewN | apply IsS45.drew | apply IsS45.set_1 | apply IsS45.set_2 | apply IsS45.set_3) | exact HI107.out)) hb)
            have n1_ := Aside0.mk (below_step (by repeat (first | (with_reducible first | exact HB.out | apply below_alloc | apply pw_below_drewN | apply below_drew1 | refine below_set ?_ (IsS45.ge HI107.out)) | exact HB.out)) hb)
            clear HI107
            clear HB
            have HI107 := n0_
            have HB := n1_
            clear n0_ n1_
            (try clear hb)
            (try clear hb2)
            (try clear hk)
            (try clear hi)
            refine hK.out _ _ trivial (fun hHeld => ?_)
            clear hK K
            refine norm_ (a' := ?_) ?_ ?_
            rotate_left
            · show Act.put _ (some 20) _ = _
              simp only [Act.put, List.setIfInBounds_toArray, List.set_cons_zero, List.set_cons_succ, i64_w, i32_w]
              rfl
            refine pure_ (i := 6) (N := some 21) (v := ?_) (a' := ?_) #[true, true, true, true, true, true, true] rfl rfl (by kernel_rfl) (fun _ _ _ h => h) (Or.inl ⟨by rfl, ?_⟩) ?_ ?_
            rotate_left
            · intro w'
              go_simp
              with_reducible rfl
            rotate_left
            · simp only [Act.put, List.setIfInBounds_toArray, List.set_cons_zero, List.set_cons_succ, i64_w, i32_w]
              rfl
            refine done_ (by kernel_rfl) ?_
            try go_wp2_with (first | ((with_reducible refine gate_dst (N := 22) rfl ?_); refine Kd.R_lit (Kd.int .u8) _ 5 ?hg (N := 22) ?hd (xs := ([] : List Int)) (inner := []) (ok := fun _ => True) (okp := fun _ => True) ?hr ?hp (fun _ hk => hk) trivial (Below.refl _ _) (Nat.le_refl _) (by simp) ?_; (case hd => rfl); (case hg => rfl); (case hr => first | (go_simp; done) | (go_simp; rfl)); (case hp => exact (Reps.none _ _)); intro v115 w21 ho22 hb hg_ hnew_; clear hg_ hnew_; (first | rw [← Ny114.out] at ho22 | (simp only [Int.reduceToNat] at ho22; rw [← Ny114.out] at ho22)); have n0_ := Aside0.mk (Kd.R_lower ho22 (below_size (by repeat (first | (with_reducible first | exact HB.out | apply below_alloc | apply pw_below_drewN | apply below_drew1 | refine below_set ?_ (IsS45.ge HI107.out)) | exact HB.out)))); have n1_ := Aside0.mk (IsS45.below (by repeat (first | (with_reducible first | exact HI107.out | apply IsS45.alloc | apply IsS45.drewN | apply IsS45.drew | apply IsS45.set_1 | apply IsS45.set_2 | apply IsS45.set_3) | exact HI107.out)) hb); have n2_ := Aside0.mk (below_step (by repeat (first | (with_reducible first | exact HB.out | apply below_alloc | apply pw_below_drewN | apply below_drew1 | refine below_set ?_ (IsS45.ge HI107.out)) | exact HB.out)) hb); clear HI107; clear HB; have HO116 := n0_; have HI107 := n1_; have HB := n2_; clear n0_ n1_ n2_; clear hb ho22; obtain ⟨i023, hi023, _, hsz23, _⟩ := info_parts info5; obtain ⟨hcut23, hA23, hC23⟩ := print_take_of (P := Try.prog) (Value.int .u8) 0 22 5 .i64 Try.underlying22 hi023 hsz23 A0 c0 l0 (ji3) (of_decide_eq_true (by first | (with_reducible assumption) | assumption)) (of_decide_eq_true (by first | (with_reducible assumption) | assumption)) HC0.out; have HR117 := Aside0.mk (Kd.C_of_reads (h1 := fun _ => rfl) (hA23 _ (Kd.reads_of_C HR0.out))); have HC117 := Aside0.mk hC23; clear hA23 hC23 hi023 hsz23) | ((with_reducible refine gate_builtin (b := .append) (xs := #[.tmp 22, .tmp 25]) rfl ?_); at_builtin; refine Kd.R_append_rows (Kd.int .u8) (w0 := w) w.heap.size rfl (.tmp 22) (.tmp 25) 22 5 (.int .u8 0) 1 rfl Try.underlying22 info5 rfl (by decide) (by omega) v115 y114 (l0.take ((ji3) : Int).toNat) _ _ _ (fun _ => True) (fun _ => False) rfl rfl ?aO ?aR (fun _ _ h => h) (fun _ h => h.elim) ?aF ?aB ?aS ?aL ?_; (case aR => first | (refine reads_cast_ (show (l0.take ((ji3) : Int).toNat).length = (ji3).toNat from (by rw [List.length_take]; have h_ : ((ji3) : Int) ≤ (l0.length : Int) := of_decide_eq_true (by first | (with_reducible assumption) | assumption); omega)) ?_; repeat (first | exact (Kd.C_below HR117.out HB.out) | (with_reducible refine Kd.C_alloc ?_ _) | (with_reducible refine Kd.C_drewN ?_ _) | (with_reducible refine Kd.C_drew ?_))) | (rw [← show (l0.take ((ji3) : Int).toNat).length = (ji3).toNat from (by rw [List.length_take]; have h_ : ((ji3) : Int) ≤ (l0.length : Int) := of_decide_eq_true (by first | (with_reducible assumption) | assumption); omega)]; repeat (first | exact (Kd.C_below HR117.out HB.out) | (with_reducible refine Kd.C_alloc ?_ _) | (with_reducible refine Kd.C_drewN ?_ _) | (with_reducible refine Kd.C_drew ?_))) | (repeat (first | exact (Kd.C_below HR117.out HB.out) | (with_reducible refine Kd.C_alloc ?_ _) | (with_reducible refine Kd.C_drewN ?_ _) | (with_reducible refine Kd.C_drew ?_)))); (case aB => exact (by repeat (first | (with_reducible first | exact HB.out | apply below_alloc | apply pw_below_drewN | apply below_drew1 | refine below_set ?_ (IsS45.ge HI107.out)) | exact HB.out))); (case aF => exact (fun _ _ => trivial)); (case aO => exact (by (with_reducible repeat (first | apply Kd.R_alloc | apply Kd.R_drewN | apply Kd.R_drew)); exact HO116.out)); (case aS => exact (below_size (by repeat (first | (with_reducible first | exact HB.out | apply below_alloc | apply pw_below_drewN | apply below_drew1 | refine below_set ?_ (IsS45.ge HI107.out)) | exact HB.out)))); (case aL => have := LMc14.out; have hlx_ := (show (l0.take ((ji3) : Int).toNat).length = (ji3).toNat from (by rw [List.length_take]; have h_ : ((ji3) : Int) ≤ (l0.length : Int) := of_decide_eq_true (by first | (with_reducible assumption) | assumption); omega)); omega); intro v119 w24 ho hb hg hat; rw [← Ny118.out] at ho; have n0_ := Aside0.mk (hb); have n1_ := Aside0.mk (ho); clear HB; clear HO116; have HB := n0_; have HO120 := n1_; clear n0_ n1_; clear ho hb hg hat))
            go_ret2
            exact ⟨_, by first | rfl | (simp [errW_none, errW_some] <;> rfl) | (simp only [← hji3]; first | rfl | (simp [errW_none, errW_some] <;> rfl)) | (simp [*, errW_none, errW_some] <;> rfl), by (with_reducible repeat (first | apply Kd.R_alloc | apply Kd.R_drewN | apply Kd.R_drew)); exact HO120.out, by repeat (first | (with_reducible first | exact HB.out | apply below_alloc | apply pw_below_drewN | apply below_drew1) | exact HB.out)⟩
          · rw [if_neg c14] at H
            exact absurd H (by simp)
        · rw [if_neg c11] at H
          have c11b0 : (t108 == t113) = false := beq_eq_false_iff_ne.mpr c11
          have c11b1 : (t108 != t113) = true := bne_iff_ne.mpr c11
          simp only [Option.some.injEq, Prod.mk.injEq] at H
          obtain ⟨rfl, rfl⟩ := H
          obtain ⟨i025, hi025, _, hsz25, _⟩ := info_parts info5
          obtain ⟨A25, hcut25, hA25, hC25⟩ := print_drop_of (P := Try.prog) (Value.int .u8) 0 22 5 .i64 Try.underlying22 hi025 hsz25 A0 c0 l0 (ji3) (of_decide_eq_true (by first | (with_reducible assumption) | assumption)) (of_decide_eq_true (by first | (with_reducible assumption) | assumption)) HC0.out
          have HR102 := Aside0.mk (Kd.C_of_reads (h1 := fun _ => rfl) (hA25 _ (Kd.reads_of_C HR0.out)))
          have HC102 := Aside0.mk hC25
          clear hA25 hC25 hi025 hsz25
          go_enter Try.func7, Try.ntmps7
          try go_wp2_with (first | ((with_reducible refine gate_callee (f := 16) rfl ?_); refine goesL_ (some 14) rfl rfl Try.func16 (by kernel_rfl) rfl #[.slice A25 (l0.drop ((ji3) : Int).toNat).length (c0 - (ji3).toNat)] rfl (by (try simp only [List.map_toArray, List.map_cons, List.map_nil]); first | done | (rw [show (l0.drop ((ji3) : Int).toNat).length = (l0.length - (ji3).toNat) from List.length_drop] <;> rfl) | (simp only [hji3]; rfl) | rfl | (simp only [List.length_drop, List.length_take]; rfl)) ?_; (with_reducible refine (octet_New.calls _ _ (l0.drop ((ji3) : Int).toNat) t103 t104 t105 t106 w _ ?side1 ?side2 ?side3 A6.out).mono ?_); (case side1 => repeat (first | (with_reducible first | exact HB.out | apply below_alloc | apply pw_below_drewN | apply below_drew1) | exact HB.out)); (case side2 => exact HR102.out); (case side3 => exact HC102.out); rintro e w26 ⟨g107, rfl, hi, hb, hb2⟩; refine ⟨_, rfl, ?_⟩; have n0_ := Aside0.mk (hb); have n1_ := Aside0.mk (hi); clear HB; have HB := n0_; have HI107 := n1_; clear n0_ n1_; (try clear hb); (try clear hb2); (try clear hk); (try clear hi)))
          have n0_ := Aside0.mk (IsS45.drew HI107.out)
          have n1_ := Aside0.mk (below_drew1 HB.out)
          clear HI107
          clear HB
          have HI107 := n0_
          have HB := n1_
          clear n0_ n1_
          obtain ⟨i028, hi028, _, hsz28, _⟩ := info_parts info5
          obtain ⟨hcut28, hA28, hC28⟩ := print_take_of (P := Try.prog) (Value.int .u8) 0 22 5 .i64 Try.underlying22 hi028 hsz28 A0 c0 l0 (ji3) (of_decide_eq_true (by first | (with_reducible assumption) | assumption)) (of_decide_eq_true (by first | (with_reducible assumption) | assumption)) HC0.out
          have HR112 := Aside0.mk (Kd.C_of_reads (h1 := fun _ => rfl) (hA28 _ (Kd.reads_of_C HR0.out)))
          have HC112 := Aside0.mk hC28
          clear hA28 hC28 hi028 hsz28
          refine start_ (n := 7) (S := fun w' => True) (ds := []) #[false, false, false, false, false, false, false] (by kernel_rfl) rfl rfl trivial (fun hHeld => ?_)
          generalize w26.drew = w27 at HI107 HB HR112 hHeld ⊢
          refine pure_ (i := 0) (N := some 15) (v := ?_) (a' := ?_) #[true, false, false, false, false, false, false] rfl rfl (by kernel_rfl) (fun _ _ _ h => h) (Or.inl ⟨by rfl, ?_⟩) ?_ ?_
          rotate_left
          · intro w'
            go_simp
            with_reducible rfl
          rotate_left
          · simp only [Act.put, List.setIfInBounds_toArray, List.set_cons_zero, List.set_cons_succ, i64_w, i32_w]
            rfl
          refine pure_ (i := 2) (N := some 17) (v := ?_) (a' := ?_) #[true, false, true, false, false, false, false] rfl rfl (by kernel_rfl) (fun _ _ _ h => h) (Or.inl ⟨by rfl, ?_⟩) ?_ ?_
          rotate_left
          · intro w'
            go_simp
            with_reducible rfl
          rotate_left
          · simp only [Act.put, List.setIfInBounds_toArray, List.set_cons_zero, List.set_cons_succ, i64_w, i32_w]
            rfl
          refine pure_ (i := 3) (N := some 18) (v := ?_) (a' := ?_) #[true, false, true, true, false, false, false] rfl rfl (by kernel_rfl) (fun _ _ _ h => h) (Or.inl ⟨by rfl, ?_⟩) ?_ ?_
          rotate_left
          · intro w'
            go_simp
            with_reducible rfl
          rotate_left
          · simp only [Act.put, List.setIfInBounds_toArray, List.set_cons_zero, List.set_cons_succ, i64_w, i32_w]
            rfl
          refine pure_ (i := 4) (N := some 19) (v := ?_) (a' := ?_) #[true, false, true, true, true, false, false] rfl rfl (by kernel_rfl) (fun _ _ _ h => h) (Or.inl ⟨by rfl, ?_⟩) ?_ ?_
          rotate_left
          · intro w'
            go_simp
            with_reducible rfl
          rotate_left
          · simp only [Act.put, List.setIfInBounds_toArray, List.set_cons_zero, List.set_cons_succ, i64_w, i32_w]
            rfl
          refine one_ (i := 1) (N := some 16) #[true, true, true, true, true, false, false] rfl rfl (by kernel_rfl) (by decide) (fun K hK => ?_)
          refine goes_ Try.func17 (by kernel_rfl) rfl #[.pointer (some ⟨g107, 0, none⟩), .int .i64 4] (by rfl) rfl rfl (by (try simp only [List.map_toArray, List.map_cons, List.map_nil]); first | done | rfl | (simp only [List.length_drop, List.length_take]; rfl)) ?_
          with_reducible refine (octet_Reader_Num.calls g107 t103 t104 t105 t106 4 t108 t109 t110 t111 w _ ?side1 ?side2 A7.out).mono ?_
          (case side1 => repeat (first | (with_reducible first | exact HI107.out | apply IsS45.alloc | apply IsS45.drewN | apply IsS45.drew | apply IsS45.set_1 | apply IsS45.set_2 | apply IsS45.set_3) | exact HI107.out))
          (case side2 => repeat (first | (with_reducible first | exact HB.out | apply below_alloc | apply pw_below_drewN | apply below_drew1 | refine below_set ?_ (IsS45.ge HI107.out)) | exact HB.out))
          rintro e w29 ⟨rfl, hi, hb, hk⟩
          refine ⟨_, rfl, ?_⟩
          have n0_ := Aside0.mk (hb)
          have n1_ := Aside0.mk (hi)
          clear HB
          clear HI107
          have HB := n0_
          have HI107 := n1_
          clear n0_ n1_
          (try clear hb)
          (try clear hb2)
          (try clear hk)
          (try clear hi)
          refine hK.out _ _ trivial (fun hHeld => ?_)
          clear hK K
          refine norm_ (a' := ?_) ?_ ?_
          rotate_left
          · show Act.put _ (some 16) _ = _
            simp only [Act.put, List.setIfInBounds_toArray, List.set_cons_zero, List.set_cons_succ, i64_w, i32_w]
            rfl
          refine one_ (i := 5) (N := some 20) #[true, true, true, true, true, true, false] rfl rfl (by kernel_rfl) (by decide) (fun K hK => ?_)
          refine goes_ Try.func9 (by kernel_rfl) rfl #[.slice A0 (l0.take ((ji3) : Int).toNat).length c0] (by rfl) rfl rfl (by (try simp only [List.map_toArray, List.map_cons, List.map_nil]); first | done | (rw [show (l0.take ((ji3) : Int).toNat).length = (ji3).toNat from (by rw [List.length_take]; have h_ : ((ji3) : Int) ≤ (l0.length : Int) := of_decide_eq_true (by first | (with_reducible assumption) | assumption); omega)] <;> rfl) | (simp only [hji3]; rfl) | rfl | (simp only [List.length_drop, List.length_take]; rfl)) ?_
          with_reducible refine (sum_Of.calls _ _ (l0.take ((ji3) : Int).toNat) t113 _ ?side1 ?side2 A10.out).mono ?_
          (case side1 => repeat (first | exact (Kd.C_below HR112.out HB.out) | (with_reducible refine Kd.C_alloc ?_ _) | (with_reducible refine Kd.C_drewN ?_ _) | (with_reducible refine Kd.C_drew ?_)))
          (case side2 => exact HC112.out)
          rintro e w30 ⟨rfl, hb⟩
          refine ⟨_, rfl, ?_⟩
          have n0_ := Aside0.mk (IsS45.below (by repeat (first | (with_reducible first | exact HI107.out | apply IsS45.alloc | apply IsS45.drewN | apply IsS45.drew | apply IsS45.set_1 | apply IsS45.set_2 | apply IsS45.set_3) | exact HI107.out)) hb)
          have n1_ := Aside0.mk (below_step (by repeat (first | (with_reducible first | exact HB.out | apply below_alloc | apply pw_below_drewN | apply below_drew1 | refine below_set ?_ (IsS45.ge HI107.out)) | exact HB.out)) hb)
          clear HI107
          clear HB
          have HI107 := n0_
          have HB := n1_
          clear n0_ n1_
          (try clear hb)
          (try clear hb2)
          (try clear hk)
          (try clear hi)
          refine hK.out _ _ trivial (fun hHeld => ?_)
          clear hK K
          refine norm_ (a' := ?_) ?_ ?_
          rotate_left
          · show Act.put _ (some 20) _ = _
            simp only [Act.put, List.setIfInBounds_toArray, List.set_cons_zero, List.set_cons_succ, i64_w, i32_w]
            rfl
          refine pure_ (i := 6) (N := some 21) (v := ?_) (a' := ?_) #[true, true, true, true, true, true, true] rfl rfl (by kernel_rfl) (fun _ _ _ h => h) (Or.inl ⟨by rfl, ?_⟩) ?_ ?_
          rotate_left
          · intro w'
            go_simp
            with_reducible rfl
          rotate_left
          · simp only [Act.put, List.setIfInBounds_toArray, List.set_cons_zero, List.set_cons_succ, i64_w, i32_w]
            rfl
          refine done_ (by kernel_rfl) ?_
          try go_wp2
          go_ret2
          exact ⟨_, by first | rfl | (simp [errW_none, errW_some] <;> rfl) | (simp only [← hji3]; first | rfl | (simp [errW_none, errW_some] <;> rfl)) | (simp [*, errW_none, errW_some] <;> rfl), by first | exact Kd.R_nil _ _ _ _ _ | exact Kd.N_nil _ _ _ _ _ | exact Kd.V_nil _ _ _ _ _ | exact Kd.Q_nil _ _ _ _ _ | exact Kd.S_nil _ _ _ _ _, by repeat (first | (with_reducible first | exact HB.out | apply below_alloc | apply pw_below_drewN | apply below_drew1 | refine below_set ?_ (IsS45.ge HI107.out)) | exact HB.out)⟩
      · rw [if_neg c5] at H
        exact absurd H (by simp)
    · rw [if_neg c4] at H
      exact absurd H (by simp)

/-! ### octet_Put: function 19 -/
set_option maxHeartbeats 8000000 in
set_option maxRecDepth 100000 in
theorem octet_Put_info : (Try.prog.info? 5).map (fun i => (i.zero, i.size, i.bytes)) = some (some (.int .u8 0), 1, 1) := by kernel_rfl
def octet_Put.byte (n : Int) (i : Nat) : Int := (n / 2 ^ (8 * i)) % 256
def octet_Put.arr (n : Int) (k : Nat) : Array Value := #[.int .u8 (if 7 < k then octet_Put.byte n 7 else 0), .int .u8 (if 6 < k then octet_Put.byte n 6 else 0), .int .u8 (if 5 < k then octet_Put.byte n 5 else 0), .int .u8 (if 4 < k then octet_Put.byte n 4 else 0), .int .u8 (if 3 < k then octet_Put.byte n 3 else 0), .int .u8 (if 2 < k then octet_Put.byte n 2 else 0), .int .u8 (if 1 < k then octet_Put.byte n 1 else 0), .int .u8 (if 0 < k then octet_Put.byte n 0 else 0)]
set_option maxHeartbeats 8000000 in
set_option maxRecDepth 100000 in
theorem octet_Put_at (n : Int) (q : Nat) (h : q < 8) : (octet_Put.arr n 8)[q]? = some (.int .u8 (octet_Put.byte n (7 - q))) := by
  have : q = 0 ∨ q = 1 ∨ q = 2 ∨ q = 3 ∨ q = 4 ∨ q = 5 ∨ q = 6 ∨ q = 7 := by omega
  rcases this with rfl | rfl | rfl | rfl | rfl | rfl | rfl | rfl <;> rfl
def octet_Put.bytes (n : Int) (m : Nat) : List Int := (List.range m).map fun j => octet_Put.byte n (m - 1 - j)
set_option maxHeartbeats 8000000 in
set_option maxRecDepth 100000 in
theorem octet_Put_src (W : World) (s m : Nat) (n : Int) (hm : m ≤ 8) (hrow : W.heap[s]? = some (.cells (octet_Put.arr n 8) 49 (0, 0))) : Kd.C (Kd.int .u8) W (some ⟨s, 8 - m, none⟩) m (octet_Put.bytes n m) := by
  refine ⟨by simp [octet_Put.bytes], by omega, fun _ => ⟨_, rfl, ?_⟩⟩
  intro j p hp
  unfold octet_Put.bytes at hp
  rw [List.getElem?_map] at hp
  obtain ⟨x, hx, rfl⟩ := Option.map_eq_some_iff.1 hp
  have hj : j < m := by have := (List.getElem?_eq_some_iff.1 hx).1; simpa using this
  rw [List.getElem?_range hj] at hx
  obtain rfl := Option.some.inj hx
  refine ⟨[.int .u8 (octet_Put.byte n (m - 1 - j))], rfl, rfl, ?_⟩
  intro i u hi
  have hi0 : i = 0 := by
    rcases i with _ | i
    · rfl
    · simp at hi
  subst hi0
  simp at hi; subst hi
  rw [show (⟨s, 8 - m, none⟩ : Addr).add (j * (Kd.int .u8).sz + 0) = ⟨s, 8 - m + j, none⟩ by simp [Kd.int, Kd.scalar, Go.Addr.add_lit]]
  rw [Go.cell_of_row _ _ _ _ 49 (0, 0) hrow, octet_Put_at n _ (by omega)]
  congr 3; omega
def octet_Put.f (l0 : List Int) (a1 a2 : Int) : Option (List Int) := if l0.length + 8 < 140737488355328 then (if a2 < 1 then some l0 else if a2 > 8 then some l0 else some (l0 ++ octet_Put.bytes a1 a2.toNat)) else none
set_option maxHeartbeats 8000000 in
set_option maxRecDepth 100000 in
theorem octet_Put.calls (A0 : Option Addr) (c0 : Nat) (l0 : List Int) (a1 : Int) (a2 : Int) (r : List Int) (w : World) (hr0 : Kd.C (Kd.int .u8) w A0 l0.length l0) (hc0 : l0.length ≤ c0) (h : octet_Put.f l0 a1 a2 = some r) :
    Calls Try.prog 19 #[.slice A0 l0.length c0, .int .i64 a1, .int .i64 a2] w fun e w' => ∃ v0_ : Value, e = .returned (v0_) ∧ Kd.R (Kd.int .u8) 5 w' w.heap.size (fun _ => True) v0_ r ∧ Below w.heap.size w w' := by
  unfold octet_Put.f at h
  by_cases hcap : l0.length + 8 < 140737488355328
  case neg => rw [if_neg hcap] at h; cases h
  rw [if_pos hcap] at h
  have A : Hid (l0.length + 8 < 140737488355328 ∧ (if a2 < 1 then some l0 else if a2 > 8 then some l0 else some (l0 ++ octet_Put.bytes a1 a2.toNat)) = some r ∧ Kd.C (Kd.int .u8) w A0 l0.length l0) := ⟨hcap, h, hr0⟩
  clear hcap h hr0 hc0
  go_enter Try.func19, Try.ntmps19
  go_wp2
  go_loopw [10] (fun i wr => ∃ k : Nat, k ≤ 8 ∧ i = .int .i64 k ∧ wr.heap[w.heap.size]? = some (.cells (octet_Put.arr a1 k) 49 (0, 0)) ∧ Below w.heap.size w wr) (fun i _ => 8 - (intOf i).toNat)
  case atStart => exact ⟨0, by omega, rfl, by simpa [octet_Put.arr] using Go.heap_alloc_new w _, Below.alloc (Below.refl _ _) (Nat.le_refl _) _⟩
  case round =>
    obtain ⟨k, hk, rfl, hrow, hB⟩ := hrel
    have X : Hid (wr.heap[w.heap.size]? = some (.cells (octet_Put.arr a1 k) 49 (0, 0)) ∧ Below w.heap.size w wr) := ⟨hrow, hB⟩
    clear hrow hB
    have hk8 : k = 0 ∨ k = 1 ∨ k = 2 ∨ k = 3 ∨ k = 4 ∨ k = 5 ∨ k = 6 ∨ k = 7 ∨ k = 8 := by omega
    rcases hk8 with rfl | rfl | rfl | rfl | rfl | rfl | rfl | rfl | rfl
    · have c := (blk_cell X.out.1 7).trans rfl
      have f := blk_frozen X.out.1 7
      go_wp2
      clear c f
      go_roundw
      case rel => exact ⟨1, by omega, rfl, (Go.heap_setCell_same _ _ _ _ _ _ X.out.1).trans (by simp [octet_Put.arr, octet_Put.byte]), Below.setCell X.out.2 (Nat.le_refl _) _⟩
      case measure => simp [intOf]
    · have c := (blk_cell X.out.1 6).trans rfl
      have f := blk_frozen X.out.1 6
      go_wp2
      clear c f
      go_roundw
      case rel => exact ⟨2, by omega, rfl, (Go.heap_setCell_same _ _ _ _ _ _ X.out.1).trans (by simp [octet_Put.arr, octet_Put.byte]), Below.setCell X.out.2 (Nat.le_refl _) _⟩
      case measure => simp [intOf]
    · have c := (blk_cell X.out.1 5).trans rfl
      have f := blk_frozen X.out.1 5
      go_wp2
      clear c f
      go_roundw
      case rel => exact ⟨3, by omega, rfl, (Go.heap_setCell_same _ _ _ _ _ _ X.out.1).trans (by simp [octet_Put.arr, octet_Put.byte]), Below.setCell X.out.2 (Nat.le_refl _) _⟩
      case measure => simp [intOf]
    · have c := (blk_cell X.out.1 4).trans rfl
      have f := blk_frozen X.out.1 4
      go_wp2
      clear c f
      go_roundw
      case rel => exact ⟨4, by omega, rfl, (Go.heap_setCell_same _ _ _ _ _ _ X.out.1).trans (by simp [octet_Put.arr, octet_Put.byte]), Below.setCell X.out.2 (Nat.le_refl _) _⟩
      case measure => simp [intOf]
    · have c := (blk_cell X.out.1 3).trans rfl
      have f := blk_frozen X.out.1 3
      go_wp2
      clear c f
      go_roundw
      case rel => exact ⟨5, by omega, rfl, (Go.heap_setCell_same _ _ _ _ _ _ X.out.1).trans (by simp [octet_Put.arr, octet_Put.byte]), Below.setCell X.out.2 (Nat.le_refl _) _⟩
      case measure => simp [intOf]
    · have c := (blk_cell X.out.1 2).trans rfl
      have f := blk_frozen X.out.1 2
      go_wp2
      clear c f
      go_roundw
      case rel => exact ⟨6, by omega, rfl, (Go.heap_setCell_same _ _ _ _ _ _ X.out.1).trans (by simp [octet_Put.arr, octet_Put.byte]), Below.setCell X.out.2 (Nat.le_refl _) _⟩
      case measure => simp [intOf]
    · have c := (blk_cell X.out.1 1).trans rfl
      have f := blk_frozen X.out.1 1
      go_wp2
      clear c f
      go_roundw
      case rel => exact ⟨7, by omega, rfl, (Go.heap_setCell_same _ _ _ _ _ _ X.out.1).trans (by simp [octet_Put.arr, octet_Put.byte]), Below.setCell X.out.2 (Nat.le_refl _) _⟩
      case measure => simp [intOf]
    · have c := (blk_cell X.out.1 0).trans rfl
      have f := blk_frozen X.out.1 0
      go_wp2
      clear c f
      go_roundw
      case rel => exact ⟨8, by omega, rfl, (Go.heap_setCell_same _ _ _ _ _ _ X.out.1).trans (by simp [octet_Put.arr, octet_Put.byte]), Below.setCell X.out.2 (Nat.le_refl _) _⟩
      case measure => simp [intOf]
    · have hsz : w.heap.size < wr.heap.size := blk_lt X.out.1
      have hz : Hid (w.heap.size < wr.heap.size) := hsz
      by_cases h1 : a2 < 1
      · have d1 : decide (a2 < 1) = true := decide_eq_true h1
        have HR : Hid (l0 = r) := by have := A.out.2.1; rw [if_pos h1] at this; exact Option.some.inj this
        clear h1 hsz
        go_wp2_with (first | ((with_reducible refine gate_dst (N := 23) rfl ?_); refine Kd.R_lit (Kd.int .u8) _ 5 ?hg (N := 23) ?hd (xs := ([] : List Int)) (inner := []) (ok := fun _ => True) (okp := fun _ => True) ?hr ?hp (fun _ hk => hk) trivial (Below.refl _ _) (Nat.le_refl _) (by simp) ?_; (case hd => rfl); (case hg => rfl); (case hr => first | (go_simp; done) | (go_simp; rfl)); (case hp => exact (Reps.none _ _)); intro v1 w1 ho hb hg_ hnew_; clear hg_ hnew_; have O1 : Hid (Kd.R (Kd.int .u8) 5 w1 wr.heap.size (fun _ => True) v1 [] ∧ Below wr.heap.size wr w1) := ⟨ho, hb⟩; clear ho hb) | ((with_reducible refine gate_builtin (b := .append) (xs := #[.tmp 23, .tmp 24]) rfl ?_); at_builtin; refine Kd.R_append_rows (Kd.int .u8) (w0 := wr) wr.heap.size rfl (.tmp 23) (.tmp 24) 22 5 (.int .u8 0) 1 rfl Try.underlying22 octet_Put_info rfl (by decide) (by omega) v1 [] l0 _ _ _ (fun _ => True) (fun _ => False) rfl rfl O1.out.1 (Kd.C_below A.out.2.2 ((X.out.2.trans (O1.out.2.mono X.out.2.size)))) (fun _ _ h => h) (fun _ h => h.elim) (fun _ _ => trivial) O1.out.2 O1.out.2.size (by have := A.out.1; simp; omega) ?_; intro v2 w2 ho hb hg hat; have O2 : Hid (Kd.R (Kd.int .u8) 5 w2 wr.heap.size (fun _ => True) v2 l0 ∧ Below wr.heap.size wr w2) := ⟨by simpa using ho, hb⟩; clear ho hb hg hat))
        go_ret
        exact ⟨_, rfl, by rw [← HR.out]; exact Kd.R_lower O2.out.1 (Nat.le_of_lt hz.out), X.out.2.trans (O2.out.2.mono X.out.2.size)⟩
      · have d1 : decide (a2 < 1) = false := decide_eq_false h1
        by_cases h2 : a2 > 8
        · have d2 : decide (8 < a2) = true := decide_eq_true h2
          have HR : Hid (l0 = r) := by have := A.out.2.1; rw [if_neg h1, if_pos h2] at this; exact Option.some.inj this
          clear h1 h2 hsz
          go_wp2_with (first | ((with_reducible refine gate_dst (N := 23) rfl ?_); refine Kd.R_lit (Kd.int .u8) _ 5 ?hg (N := 23) ?hd (xs := ([] : List Int)) (inner := []) (ok := fun _ => True) (okp := fun _ => True) ?hr ?hp (fun _ hk => hk) trivial (Below.refl _ _) (Nat.le_refl _) (by simp) ?_; (case hd => rfl); (case hg => rfl); (case hr => first | (go_simp; done) | (go_simp; rfl)); (case hp => exact (Reps.none _ _)); intro v1 w1 ho hb hg_ hnew_; clear hg_ hnew_; have O1 : Hid (Kd.R (Kd.int .u8) 5 w1 wr.heap.size (fun _ => True) v1 [] ∧ Below wr.heap.size wr w1) := ⟨ho, hb⟩; clear ho hb) | ((with_reducible refine gate_builtin (b := .append) (xs := #[.tmp 23, .tmp 24]) rfl ?_); at_builtin; refine Kd.R_append_rows (Kd.int .u8) (w0 := wr) wr.heap.size rfl (.tmp 23) (.tmp 24) 22 5 (.int .u8 0) 1 rfl Try.underlying22 octet_Put_info rfl (by decide) (by omega) v1 [] l0 _ _ _ (fun _ => True) (fun _ => False) rfl rfl O1.out.1 (Kd.C_below A.out.2.2 ((X.out.2.trans (O1.out.2.mono X.out.2.size)))) (fun _ _ h => h) (fun _ h => h.elim) (fun _ _ => trivial) O1.out.2 O1.out.2.size (by have := A.out.1; simp; omega) ?_; intro v2 w2 ho hb hg hat; have O2 : Hid (Kd.R (Kd.int .u8) 5 w2 wr.heap.size (fun _ => True) v2 l0 ∧ Below wr.heap.size wr w2) := ⟨by simpa using ho, hb⟩; clear ho hb hg hat))
          go_ret
          exact ⟨_, rfl, by rw [← HR.out]; exact Kd.R_lower O2.out.1 (Nat.le_of_lt hz.out), X.out.2.trans (O2.out.2.mono X.out.2.size)⟩
        · have d2 : decide (8 < a2) = false := decide_eq_false h2
          have hr : l0 ++ octet_Put.bytes a1 a2.toNat = r := by have := A.out.2.1; rw [if_neg h1, if_neg h2] at this; exact Option.some.inj this
          have hm8 : a2 = 1 ∨ a2 = 2 ∨ a2 = 3 ∨ a2 = 4 ∨ a2 = 5 ∨ a2 = 6 ∨ a2 = 7 ∨ a2 = 8 := by omega
          have HR : Hid (l0 ++ octet_Put.bytes a1 a2.toNat = r) := hr
          clear h1 h2 hsz hr d1 d2
          rcases hm8 with rfl | rfl | rfl | rfl | rfl | rfl | rfl | rfl
          · go_wp2_with (first | ((with_reducible refine gate_dst (N := 23) rfl ?_); refine Kd.R_lit (Kd.int .u8) _ 5 ?hg (N := 23) ?hd (xs := ([] : List Int)) (inner := []) (ok := fun _ => True) (okp := fun _ => True) ?hr ?hp (fun _ hk => hk) trivial (Below.refl _ _) (Nat.le_refl _) (by simp) ?_; (case hd => rfl); (case hg => rfl); (case hr => first | (go_simp; done) | (go_simp; rfl)); (case hp => exact (Reps.none _ _)); intro v1 w1 ho hb hg_ hnew_; clear hg_ hnew_; have O1 : Hid (Kd.R (Kd.int .u8) 5 w1 wr.heap.size (fun _ => True) v1 [] ∧ Below wr.heap.size wr w1) := ⟨ho, hb⟩; clear ho hb) | ((with_reducible refine gate_builtin (b := .append) (xs := #[.tmp 23, .tmp 24]) rfl ?_); at_builtin; refine Kd.R_append_rows (Kd.int .u8) (w0 := wr) wr.heap.size rfl (.tmp 23) (.tmp 24) 22 5 (.int .u8 0) 1 rfl Try.underlying22 octet_Put_info rfl (by decide) (by omega) v1 [] l0 _ _ _ (fun _ => True) (fun _ => False) rfl rfl O1.out.1 (Kd.C_below A.out.2.2 ((X.out.2.trans (O1.out.2.mono X.out.2.size)))) (fun _ _ h => h) (fun _ h => h.elim) (fun _ _ => trivial) O1.out.2 O1.out.2.size (by have := A.out.1; simp; omega) ?_; intro v2 w2 ho hb hg hat; have O2 : Hid (Kd.R (Kd.int .u8) 5 w2 wr.heap.size (fun _ => True) v2 l0 ∧ Below wr.heap.size wr w2) := ⟨by simpa using ho, hb⟩; clear ho hb hg hat) | ((with_reducible refine gate_builtin (b := .append) (xs := #[.tmp 33, .tmp 36]) rfl ?_); at_builtin; refine Kd.R_append_rows (Kd.int .u8) (w0 := wr) wr.heap.size rfl (.tmp 33) (.tmp 36) 22 5 (.int .u8 0) 1 rfl Try.underlying22 octet_Put_info rfl (by decide) (by omega) v2 l0 (octet_Put.bytes a1 1) (some ⟨w.heap.size, 7, none⟩) 1 1 (fun _ => True) (fun _ => False) rfl rfl O2.out.1 (octet_Put_src w2 w.heap.size 1 a1 (by omega) ((O2.out.2.block _ hz.out).trans X.out.1)) (fun _ _ h => h) (fun _ h => h.elim) (fun _ _ => trivial) O2.out.2 O2.out.2.size (by have := A.out.1; omega) ?_; intro v3 w3 ho hb hg hat; have O3 : Hid (Kd.R (Kd.int .u8) 5 w3 wr.heap.size (fun _ => True) v3 (l0 ++ octet_Put.bytes a1 1) ∧ Below wr.heap.size wr w3) := ⟨ho, hb⟩; clear ho hb hg hat))
            go_ret
            exact ⟨_, rfl, by rw [← HR.out]; exact Kd.R_lower O3.out.1 (Nat.le_of_lt hz.out), X.out.2.trans (O3.out.2.mono X.out.2.size)⟩
          · go_wp2_with (first | ((with_reducible refine gate_dst (N := 23) rfl ?_); refine Kd.R_lit (Kd.int .u8) _ 5 ?hg (N := 23) ?hd (xs := ([] : List Int)) (inner := []) (ok := fun _ => True) (okp := fun _ => True) ?hr ?hp (fun _ hk => hk) trivial (Below.refl _ _) (Nat.le_refl _) (by simp) ?_; (case hd => rfl); (case hg => rfl); (case hr => first | (go_simp; done) | (go_simp; rfl)); (case hp => exact (Reps.none _ _)); intro v1 w1 ho hb hg_ hnew_; clear hg_ hnew_; have O1 : Hid (Kd.R (Kd.int .u8) 5 w1 wr.heap.size (fun _ => True) v1 [] ∧ Below wr.heap.size wr w1) := ⟨ho, hb⟩; clear ho hb) | ((with_reducible refine gate_builtin (b := .append) (xs := #[.tmp 23, .tmp 24]) rfl ?_); at_builtin; refine Kd.R_append_rows (Kd.int .u8) (w0 := wr) wr.heap.size rfl (.tmp 23) (.tmp 24) 22 5 (.int .u8 0) 1 rfl Try.underlying22 octet_Put_info rfl (by decide) (by omega) v1 [] l0 _ _ _ (fun _ => True) (fun _ => False) rfl rfl O1.out.1 (Kd.C_below A.out.2.2 ((X.out.2.trans (O1.out.2.mono X.out.2.size)))) (fun _ _ h => h) (fun _ h => h.elim) (fun _ _ => trivial) O1.out.2 O1.out.2.size (by have := A.out.1; simp; omega) ?_; intro v2 w2 ho hb hg hat; have O2 : Hid (Kd.R (Kd.int .u8) 5 w2 wr.heap.size (fun _ => True) v2 l0 ∧ Below wr.heap.size wr w2) := ⟨by simpa using ho, hb⟩; clear ho hb hg hat) | ((with_reducible refine gate_builtin (b := .append) (xs := #[.tmp 33, .tmp 36]) rfl ?_); at_builtin; refine Kd.R_append_rows (Kd.int .u8) (w0 := wr) wr.heap.size rfl (.tmp 33) (.tmp 36) 22 5 (.int .u8 0) 1 rfl Try.underlying22 octet_Put_info rfl (by decide) (by omega) v2 l0 (octet_Put.bytes a1 2) (some ⟨w.heap.size, 6, none⟩) 2 2 (fun _ => True) (fun _ => False) rfl rfl O2.out.1 (octet_Put_src w2 w.heap.size 2 a1 (by omega) ((O2.out.2.block _ hz.out).trans X.out.1)) (fun _ _ h => h) (fun _ h => h.elim) (fun _ _ => trivial) O2.out.2 O2.out.2.size (by have := A.out.1; omega) ?_; intro v3 w3 ho hb hg hat; have O3 : Hid (Kd.R (Kd.int .u8) 5 w3 wr.heap.size (fun _ => True) v3 (l0 ++ octet_Put.bytes a1 2) ∧ Below wr.heap.size wr w3) := ⟨ho, hb⟩; clear ho hb hg hat))
            go_ret
            exact ⟨_, rfl, by rw [← HR.out]; exact Kd.R_lower O3.out.1 (Nat.le_of_lt hz.out), X.out.2.trans (O3.out.2.mono X.out.2.size)⟩
          · go_wp2_with (first | ((with_reducible refine gate_dst (N := 23) rfl ?_); refine Kd.R_lit (Kd.int .u8) _ 5 ?hg (N := 23) ?hd (xs := ([] : List Int)) (inner := []) (ok := fun _ => True) (okp := fun _ => True) ?hr ?hp (fun _ hk => hk) trivial (Below.refl _ _) (Nat.le_refl _) (by simp) ?_; (case hd => rfl); (case hg => rfl); (case hr => first | (go_simp; done) | (go_simp; rfl)); (case hp => exact (Reps.none _ _)); intro v1 w1 ho hb hg_ hnew_; clear hg_ hnew_; have O1 : Hid (Kd.R (Kd.int .u8) 5 w1 wr.heap.size (fun _ => True) v1 [] ∧ Below wr.heap.size wr w1) := ⟨ho, hb⟩; clear ho hb) | ((with_reducible refine gate_builtin (b := .append) (xs := #[.tmp 23, .tmp 24]) rfl ?_); at_builtin; refine Kd.R_append_rows (Kd.int .u8) (w0 := wr) wr.heap.size rfl (.tmp 23) (.tmp 24) 22 5 (.int .u8 0) 1 rfl Try.underlying22 octet_Put_info rfl (by decide) (by omega) v1 [] l0 _ _ _ (fun _ => True) (fun _ => False) rfl rfl O1.out.1 (Kd.C_below A.out.2.2 ((X.out.2.trans (O1.out.2.mono X.out.2.size)))) (fun _ _ h => h) (fun _ h => h.elim) (fun _ _ => trivial) O1.out.2 O1.out.2.size (by have := A.out.1; simp; omega) ?_; intro v2 w2 ho hb hg hat; have O2 : Hid (Kd.R (Kd.int .u8) 5 w2 wr.heap.size (fun _ => True) v2 l0 ∧ Below wr.heap.size wr w2) := ⟨by simpa using ho, hb⟩; clear ho hb hg hat) | ((with_reducible refine gate_builtin (b := .append) (xs := #[.tmp 33, .tmp 36]) rfl ?_); at_builtin; refine Kd.R_append_rows (Kd.int .u8) (w0 := wr) wr.heap.size rfl (.tmp 33) (.tmp 36) 22 5 (.int .u8 0) 1 rfl Try.underlying22 octet_Put_info rfl (by decide) (by omega) v2 l0 (octet_Put.bytes a1 3) (some ⟨w.heap.size, 5, none⟩) 3 3 (fun _ => True) (fun _ => False) rfl rfl O2.out.1 (octet_Put_src w2 w.heap.size 3 a1 (by omega) ((O2.out.2.block _ hz.out).trans X.out.1)) (fun _ _ h => h) (fun _ h => h.elim) (fun _ _ => trivial) O2.out.2 O2.out.2.size (by have := A.out.1; omega) ?_; intro v3 w3 ho hb hg hat; have O3 : Hid (Kd.R (Kd.int .u8) 5 w3 wr.heap.size (fun _ => True) v3 (l0 ++ octet_Put.bytes a1 3) ∧ Below wr.heap.size wr w3) := ⟨ho, hb⟩; clear ho hb hg hat))
            go_ret
            exact ⟨_, rfl, by rw [← HR.out]; exact Kd.R_lower O3.out.1 (Nat.le_of_lt hz.out), X.out.2.trans (O3.out.2.mono X.out.2.size)⟩
          · go_wp2_with (first | ((with_reducible refine gate_dst (N := 23) rfl ?_); refine Kd.R_lit (Kd.int .u8) _ 5 ?hg (N := 23) ?hd (xs := ([] : List Int)) (inner := []) (ok := fun _ => True) (okp := fun _ => True) ?hr ?hp (fun _ hk => hk) trivial (Below.refl _ _) (Nat.le_refl _) (by simp) ?_; (case hd => rfl); (case hg => rfl); (case hr => first | (go_simp; done) | (go_simp; rfl)); (case hp => exact (Reps.none _ _)); intro v1 w1 ho hb hg_ hnew_; clear hg_ hnew_; have O1 : Hid (Kd.R (Kd.int .u8) 5 w1 wr.heap.size (fun _ => True) v1 [] ∧ Below wr.heap.size wr w1) := ⟨ho, hb⟩; clear ho hb) | ((with_reducible refine gate_builtin (b := .append) (xs := #[.tmp 23, .tmp 24]) rfl ?_); at_builtin; refine Kd.R_append_rows (Kd.int .u8) (w0 := wr) wr.heap.size rfl (.tmp 23) (.tmp 24) 22 5 (.int .u8 0) 1 rfl Try.underlying22 octet_Put_info rfl (by decide) (by omega) v1 [] l0 _ _ _ (fun _ => True) (fun _ => False) rfl rfl O1.out.1 (Kd.C_below A.out.2.2 ((X.out.2.trans (O1.out.2.mono X.out.2.size)))) (fun _ _ h => h) (fun _ h => h.elim) (fun _ _ => trivial) O1.out.2 O1.out.2.size (by have := A.out.1; simp; omega) ?_; intro v2 w2 ho hb hg hat; have O2 : Hid (Kd.R (Kd.int .u8) 5 w2 wr.heap.size (fun _ => True) v2 l0 ∧ Below wr.heap.size wr w2) := ⟨by simpa using ho, hb⟩; clear ho hb hg hat) | ((with_reducible refine gate_builtin (b := .append) (xs := #[.tmp 33, .tmp 36]) rfl ?_); at_builtin; refine Kd.R_append_rows (Kd.int .u8) (w0 := wr) wr.heap.size rfl (.tmp 33) (.tmp 36) 22 5 (.int .u8 0) 1 rfl Try.underlying22 octet_Put_info rfl (by decide) (by omega) v2 l0 (octet_Put.bytes a1 4) (some ⟨w.heap.size, 4, none⟩) 4 4 (fun _ => True) (fun _ => False) rfl rfl O2.out.1 (octet_Put_src w2 w.heap.size 4 a1 (by omega) ((O2.out.2.block _ hz.out).trans X.out.1)) (fun _ _ h => h) (fun _ h => h.elim) (fun _ _ => trivial) O2.out.2 O2.out.2.size (by have := A.out.1; omega) ?_; intro v3 w3 ho hb hg hat; have O3 : Hid (Kd.R (Kd.int .u8) 5 w3 wr.heap.size (fun _ => True) v3 (l0 ++ octet_Put.bytes a1 4) ∧ Below wr.heap.size wr w3) := ⟨ho, hb⟩; clear ho hb hg hat))
            go_ret
            exact ⟨_, rfl, by rw [← HR.out]; exact Kd.R_lower O3.out.1 (Nat.le_of_lt hz.out), X.out.2.trans (O3.out.2.mono X.out.2.size)⟩
          · go_wp2_with (first | ((with_reducible refine gate_dst (N := 23) rfl ?_); refine Kd.R_lit (Kd.int .u8) _ 5 ?hg (N := 23) ?hd (xs := ([] : List Int)) (inner := []) (ok := fun _ => True) (okp := fun _ => True) ?hr ?hp (fun _ hk => hk) trivial (Below.refl _ _) (Nat.le_refl _) (by simp) ?_; (case hd => rfl); (case hg => rfl); (case hr => first | (go_simp; done) | (go_simp; rfl)); (case hp => exact (Reps.none _ _)); intro v1 w1 ho hb hg_ hnew_; clear hg_ hnew_; have O1 : Hid (Kd.R (Kd.int .u8) 5 w1 wr.heap.size (fun _ => True) v1 [] ∧ Below wr.heap.size wr w1) := ⟨ho, hb⟩; clear ho hb) | ((with_reducible refine gate_builtin (b := .append) (xs := #[.tmp 23, .tmp 24]) rfl ?_); at_builtin; refine Kd.R_append_rows (Kd.int .u8) (w0 := wr) wr.heap.size rfl (.tmp 23) (.tmp 24) 22 5 (.int .u8 0) 1 rfl Try.underlying22 octet_Put_info rfl (by decide) (by omega) v1 [] l0 _ _ _ (fun _ => True) (fun _ => False) rfl rfl O1.out.1 (Kd.C_below A.out.2.2 ((X.out.2.trans (O1.out.2.mono X.out.2.size)))) (fun _ _ h => h) (fun _ h => h.elim) (fun _ _ => trivial) O1.out.2 O1.out.2.size (by have := A.out.1; simp; omega) ?_; intro v2 w2 ho hb hg hat; have O2 : Hid (Kd.R (Kd.int .u8) 5 w2 wr.heap.size (fun _ => True) v2 l0 ∧ Below wr.heap.size wr w2) := ⟨by simpa using ho, hb⟩; clear ho hb hg hat) | ((with_reducible refine gate_builtin (b := .append) (xs := #[.tmp 33, .tmp 36]) rfl ?_); at_builtin; refine Kd.R_append_rows (Kd.int .u8) (w0 := wr) wr.heap.size rfl (.tmp 33) (.tmp 36) 22 5 (.int .u8 0) 1 rfl Try.underlying22 octet_Put_info rfl (by decide) (by omega) v2 l0 (octet_Put.bytes a1 5) (some ⟨w.heap.size, 3, none⟩) 5 5 (fun _ => True) (fun _ => False) rfl rfl O2.out.1 (octet_Put_src w2 w.heap.size 5 a1 (by omega) ((O2.out.2.block _ hz.out).trans X.out.1)) (fun _ _ h => h) (fun _ h => h.elim) (fun _ _ => trivial) O2.out.2 O2.out.2.size (by have := A.out.1; omega) ?_; intro v3 w3 ho hb hg hat; have O3 : Hid (Kd.R (Kd.int .u8) 5 w3 wr.heap.size (fun _ => True) v3 (l0 ++ octet_Put.bytes a1 5) ∧ Below wr.heap.size wr w3) := ⟨ho, hb⟩; clear ho hb hg hat))
            go_ret
            exact ⟨_, rfl, by rw [← HR.out]; exact Kd.R_lower O3.out.1 (Nat.le_of_lt hz.out), X.out.2.trans (O3.out.2.mono X.out.2.size)⟩
          · go_wp2_with (first | ((with_reducible refine gate_dst (N := 23) rfl ?_); refine Kd.R_lit (Kd.int .u8) _ 5 ?hg (N := 23) ?hd (xs := ([] : List Int)) (inner := []) (ok := fun _ => True) (okp := fun _ => True) ?hr ?hp (fun _ hk => hk) trivial (Below.refl _ _) (Nat.le_refl _) (by simp) ?_; (case hd => rfl); (case hg => rfl); (case hr => first | (go_simp; done) | (go_simp; rfl)); (case hp => exact (Reps.none _ _)); intro v1 w1 ho hb hg_ hnew_; clear hg_ hnew_; have O1 : Hid (Kd.R (Kd.int .u8) 5 w1 wr.heap.size (fun _ => True) v1 [] ∧ Below wr.heap.size wr w1) := ⟨ho, hb⟩; clear ho hb) | ((with_reducible refine gate_builtin (b := .append) (xs := #[.tmp 23, .tmp 24]) rfl ?_); at_builtin; refine Kd.R_append_rows (Kd.int .u8) (w0 := wr) wr.heap.size rfl (.tmp 23) (.tmp 24) 22 5 (.int .u8 0) 1 rfl Try.underlying22 octet_Put_info rfl (by decide) (by omega) v1 [] l0 _ _ _ (fun _ => True) (fun _ => False) rfl rfl O1.out.1 (Kd.C_below A.out.2.2 ((X.out.2.trans (O1.out.2.mono X.out.2.size)))) (fun _ _ h => h) (fun _ h => h.elim) (fun _ _ => trivial) O1.out.2 O1.out.2.size (by have := A.out.1; simp; omega) ?_; intro v2 w2 ho hb hg hat; have O2 : Hid (Kd.R (Kd.int .u8) 5 w2 wr.heap.size (fun _ => True) v2 l0 ∧ Below wr.heap.size wr w2) := ⟨by simpa using ho, hb⟩; clear ho hb hg hat) | ((with_reducible refine gate_builtin (b := .append) (xs := #[.tmp 33, .tmp 36]) rfl ?_); at_builtin; refine Kd.R_append_rows (Kd.int .u8) (w0 := wr) wr.heap.size rfl (.tmp 33) (.tmp 36) 22 5 (.int .u8 0) 1 rfl Try.underlying22 octet_Put_info rfl (by decide) (by omega) v2 l0 (octet_Put.bytes a1 6) (some ⟨w.heap.size, 2, none⟩) 6 6 (fun _ => True) (fun _ => False) rfl rfl O2.out.1 (octet_Put_src w2 w.heap.size 6 a1 (by omega) ((O2.out.2.block _ hz.out).trans X.out.1)) (fun _ _ h => h) (fun _ h => h.elim) (fun _ _ => trivial) O2.out.2 O2.out.2.size (by have := A.out.1; omega) ?_; intro v3 w3 ho hb hg hat; have O3 : Hid (Kd.R (Kd.int .u8) 5 w3 wr.heap.size (fun _ => True) v3 (l0 ++ octet_Put.bytes a1 6) ∧ Below wr.heap.size wr w3) := ⟨ho, hb⟩; clear ho hb hg hat))
            go_ret
            exact ⟨_, rfl, by rw [← HR.out]; exact Kd.R_lower O3.out.1 (Nat.le_of_lt hz.out), X.out.2.trans (O3.out.2.mono X.out.2.size)⟩
          · go_wp2_with (first | ((with_reducible refine gate_dst (N := 23) rfl ?_); refine Kd.R_lit (Kd.int .u8) _ 5 ?hg (N := 23) ?hd (xs := ([] : List Int)) (inner := []) (ok := fun _ => True) (okp := fun _ => True) ?hr ?hp (fun _ hk => hk) trivial (Below.refl _ _) (Nat.le_refl _) (by simp) ?_; (case hd => rfl); (case hg => rfl); (case hr => first | (go_simp; done) | (go_simp; rfl)); (case hp => exact (Reps.none _ _)); intro v1 w1 ho hb hg_ hnew_; clear hg_ hnew_; have O1 : Hid (Kd.R (Kd.int .u8) 5 w1 wr.heap.size (fun _ => True) v1 [] ∧ Below wr.heap.size wr w1) := ⟨ho, hb⟩; clear ho hb) | ((with_reducible refine gate_builtin (b := .append) (xs := #[.tmp 23, .tmp 24]) rfl ?_); at_builtin; refine Kd.R_append_rows (Kd.int .u8) (w0 := wr) wr.heap.size rfl (.tmp 23) (.tmp 24) 22 5 (.int .u8 0) 1 rfl Try.underlying22 octet_Put_info rfl (by decide) (by omega) v1 [] l0 _ _ _ (fun _ => True) (fun _ => False) rfl rfl O1.out.1 (Kd.C_below A.out.2.2 ((X.out.2.trans (O1.out.2.mono X.out.2.size)))) (fun _ _ h => h) (fun _ h => h.elim) (fun _ _ => trivial) O1.out.2 O1.out.2.size (by have := A.out.1; simp; omega) ?_; intro v2 w2 ho hb hg hat; have O2 : Hid (Kd.R (Kd.int .u8) 5 w2 wr.heap.size (fun _ => True) v2 l0 ∧ Below wr.heap.size wr w2) := ⟨by simpa using ho, hb⟩; clear ho hb hg hat) | ((with_reducible refine gate_builtin (b := .append) (xs := #[.tmp 33, .tmp 36]) rfl ?_); at_builtin; refine Kd.R_append_rows (Kd.int .u8) (w0 := wr) wr.heap.size rfl (.tmp 33) (.tmp 36) 22 5 (.int .u8 0) 1 rfl Try.underlying22 octet_Put_info rfl (by decide) (by omega) v2 l0 (octet_Put.bytes a1 7) (some ⟨w.heap.size, 1, none⟩) 7 7 (fun _ => True) (fun _ => False) rfl rfl O2.out.1 (octet_Put_src w2 w.heap.size 7 a1 (by omega) ((O2.out.2.block _ hz.out).trans X.out.1)) (fun _ _ h => h) (fun _ h => h.elim) (fun _ _ => trivial) O2.out.2 O2.out.2.size (by have := A.out.1; omega) ?_; intro v3 w3 ho hb hg hat; have O3 : Hid (Kd.R (Kd.int .u8) 5 w3 wr.heap.size (fun _ => True) v3 (l0 ++ octet_Put.bytes a1 7) ∧ Below wr.heap.size wr w3) := ⟨ho, hb⟩; clear ho hb hg hat))
            go_ret
            exact ⟨_, rfl, by rw [← HR.out]; exact Kd.R_lower O3.out.1 (Nat.le_of_lt hz.out), X.out.2.trans (O3.out.2.mono X.out.2.size)⟩
          · go_wp2_with (first | ((with_reducible refine gate_dst (N := 23) rfl ?_); refine Kd.R_lit (Kd.int .u8) _ 5 ?hg (N := 23) ?hd (xs := ([] : List Int)) (inner := []) (ok := fun _ => True) (okp := fun _ => True) ?hr ?hp (fun _ hk => hk) trivial (Below.refl _ _) (Nat.le_refl _) (by simp) ?_; (case hd => rfl); (case hg => rfl); (case hr => first | (go_simp; done) | (go_simp; rfl)); (case hp => exact (Reps.none _ _)); intro v1 w1 ho hb hg_ hnew_; clear hg_ hnew_; have O1 : Hid (Kd.R (Kd.int .u8) 5 w1 wr.heap.size (fun _ => True) v1 [] ∧ Below wr.heap.size wr w1) := ⟨ho, hb⟩; clear ho hb) | ((with_reducible refine gate_builtin (b := .append) (xs := #[.tmp 23, .tmp 24]) rfl ?_); at_builtin; refine Kd.R_append_rows (Kd.int .u8) (w0 := wr) wr.heap.size rfl (.tmp 23) (.tmp 24) 22 5 (.int .u8 0) 1 rfl Try.underlying22 octet_Put_info rfl (by decide) (by omega) v1 [] l0 _ _ _ (fun _ => True) (fun _ => False) rfl rfl O1.out.1 (Kd.C_below A.out.2.2 ((X.out.2.trans (O1.out.2.mono X.out.2.size)))) (fun _ _ h => h) (fun _ h => h.elim) (fun _ _ => trivial) O1.out.2 O1.out.2.size (by have := A.out.1; simp; omega) ?_; intro v2 w2 ho hb hg hat; have O2 : Hid (Kd.R (Kd.int .u8) 5 w2 wr.heap.size (fun _ => True) v2 l0 ∧ Below wr.heap.size wr w2) := ⟨by simpa using ho, hb⟩; clear ho hb hg hat) | ((with_reducible refine gate_builtin (b := .append) (xs := #[.tmp 33, .tmp 36]) rfl ?_); at_builtin; refine Kd.R_append_rows (Kd.int .u8) (w0 := wr) wr.heap.size rfl (.tmp 33) (.tmp 36) 22 5 (.int .u8 0) 1 rfl Try.underlying22 octet_Put_info rfl (by decide) (by omega) v2 l0 (octet_Put.bytes a1 8) (some ⟨w.heap.size, 0, none⟩) 8 8 (fun _ => True) (fun _ => False) rfl rfl O2.out.1 (octet_Put_src w2 w.heap.size 8 a1 (by omega) ((O2.out.2.block _ hz.out).trans X.out.1)) (fun _ _ h => h) (fun _ h => h.elim) (fun _ _ => trivial) O2.out.2 O2.out.2.size (by have := A.out.1; omega) ?_; intro v3 w3 ho hb hg hat; have O3 : Hid (Kd.R (Kd.int .u8) 5 w3 wr.heap.size (fun _ => True) v3 (l0 ++ octet_Put.bytes a1 8) ∧ Below wr.heap.size wr w3) := ⟨ho, hb⟩; clear ho hb hg hat))
            go_ret
            exact ⟨_, rfl, by rw [← HR.out]; exact Kd.R_lower O3.out.1 (Nat.le_of_lt hz.out), X.out.2.trans (O3.out.2.mono X.out.2.size)⟩

/-! ### sum_Seal: function 11 -/
def sum_Seal.f (l0 : List Int) : Option (List Int) := (sum_Of.f l0).bind fun t121 => ((octet_Put.f l0 t121 4).bind fun t122 => (some t122))
set_option maxHeartbeats 8000000 in
set_option maxRecDepth 100000 in
theorem sum_Seal.calls (A0 : Option Addr) (c0 : Nat) (l0 : List Int) (r : List Int) (w : World) (hr0 : Kd.C (Kd.int .u8) w A0 l0.length l0) (hc0 : l0.length ≤ c0) (h : sum_Seal.f l0 = some r) :
    Calls Try.prog 11 #[.slice A0 l0.length c0] w fun e w' => ∃ v0_ : Value, e = .returned (v0_) ∧ Kd.R (Kd.int .u8) 5 w' w.heap.size (fun _ => True) v0_ r ∧ Below w.heap.size w w' := by
  have HR0 := Aside0.mk hr0
  have HC0 := Aside0.mk hc0
  clear hr0 hc0
  have HB := Aside0.mk (Below.refl w.heap.size w)
  have H : ((sum_Of.f l0).bind fun t121 => ((octet_Put.f l0 t121 4).bind fun t122 => (some t122))) = some r := h
  clear h
  replace H := Option.bind_eq_some_iff.mp H
  obtain ⟨t121, A20, H⟩ := H
  replace H : ((octet_Put.f l0 t121 4).bind fun t122 => (some t122)) = some r := H
  have A2 := Aside0.mk A20
  clear A20
  replace H := Option.bind_eq_some_iff.mp H
  obtain ⟨t122, A30, H⟩ := H
  replace H : (some t122) = some r := H
  have A3 := Aside0.mk A30
  clear A30
  obtain rfl := Option.some.inj H
  go_enter Try.func11, Try.ntmps11
  go_wp2_with (first | ((with_reducible refine gate_callee (f := 9) rfl ?_); refine goesL_ (some 5) rfl rfl Try.func9 (by kernel_rfl) rfl #[.slice A0 l0.length c0] rfl (by (try simp only [List.map_toArray, List.map_cons, List.map_nil]); first | done | rfl | (simp only [List.length_drop, List.length_take]; rfl)) ?_; (with_reducible refine (sum_Of.calls _ _ l0 t121 _ ?side1 ?side2 A2.out).mono ?_); (case side1 => repeat (first | exact HR0.out | (with_reducible refine Kd.C_alloc ?_ _) | (with_reducible refine Kd.C_drewN ?_ _) | (with_reducible refine Kd.C_drew ?_))); (case side2 => exact HC0.out); rintro e w4 ⟨rfl, hb⟩; refine ⟨_, rfl, ?_⟩; have n0_ := Aside0.mk (below_step (by repeat (first | (with_reducible first | exact HB.out | apply below_alloc | apply pw_below_drewN | apply below_drew1) | exact HB.out)) hb); clear HB; have HB := n0_; clear n0_; (try clear hb); (try clear hb2); (try clear hk); (try clear hi)) | ((with_reducible refine gate_callee (f := 19) rfl ?_); refine goesL_ (some 6) rfl rfl Try.func19 (by kernel_rfl) rfl #[.slice A0 l0.length c0, .int .i64 t121, .int .i64 4] rfl (by (try simp only [List.map_toArray, List.map_cons, List.map_nil]); first | done | rfl | (simp only [List.length_drop, List.length_take]; rfl)) ?_; (with_reducible refine (octet_Put.calls _ _ l0 t121 4 t122 _ ?side1 ?side2 A3.out).mono ?_); (case side1 => repeat (first | exact (Kd.C_below HR0.out HB.out) | (with_reducible refine Kd.C_alloc ?_ _) | (with_reducible refine Kd.C_drewN ?_ _) | (with_reducible refine Kd.C_drew ?_))); (case side2 => exact HC0.out); rintro e w5 ⟨v123, rfl, ho0, hb⟩; refine ⟨_, rfl, ?_⟩; have n0_ := Aside0.mk (Kd.R_lower ho0 (below_size (by repeat (first | (with_reducible first | exact HB.out | apply below_alloc | apply pw_below_drewN | apply below_drew1) | exact HB.out)))); have n1_ := Aside0.mk (below_step (by repeat (first | (with_reducible first | exact HB.out | apply below_alloc | apply pw_below_drewN | apply below_drew1) | exact HB.out)) hb); clear HB; have HO124 := n0_; have HB := n1_; clear n0_ n1_; (try clear hb); (try clear hb2); (try clear hk); (try clear hi); (try clear ho0)))
  go_ret
  exact ⟨_, by first | rfl | (simp [errW_none, errW_some] <;> rfl) | (simp [*, errW_none, errW_some] <;> rfl), by (with_reducible repeat (first | apply Kd.R_alloc | apply Kd.R_drewN | apply Kd.R_drew)); exact HO124.out, by repeat (first | (with_reducible first | exact HB.out | apply below_alloc | apply pw_below_drewN | apply below_drew1) | exact HB.out)⟩

/-! ### sheerleglaw03_known: function 6 -/
theorem sheerleglaw03_known_row (W : World) (s : Nat) (l : List Int) (t : TypeId) (fr : Nat × Nat) (hl : l.length < 1000) (hrow : W.heap[s]? = some (.cells (l.map (Value.int .u8)).toArray t fr)) : Kd.C (Kd.int .u8) W (some ⟨s, 0, none⟩) l.length l := by
  refine ⟨rfl, by omega, fun _ => ⟨_, rfl, ?_⟩⟩
  intro j p hp
  refine ⟨[.int .u8 p], rfl, rfl, ?_⟩
  intro i u hi
  have hi0 : i = 0 := by
    rcases i with _ | i
    · rfl
    · simp at hi
  subst hi0
  simp at hi; subst hi
  rw [show (⟨s, 0, none⟩ : Addr).add (j * (Kd.int .u8).sz + 0) = ⟨s, j, none⟩ by simp [Kd.int, Kd.scalar, Go.Addr.add_lit]]
  rw [Go.cell_of_row _ _ _ _ t fr hrow]
  simp [hp]
theorem sheerleglaw03_known_new (W : World) (o : Obj) : (W.alloc o).heap[W.heap.size]? = some o := by
  show (W.heap.push o)[W.heap.size]? = _
  simp
def sheerleglaw03_known.f : Option Bool := some true
theorem sheerleglaw03_known_seal : sum_Seal.f [97, 98] = some [97, 98, 1, 38, 0, 196] := by decide +kernel
theorem sheerleglaw03_known_open : sum_Open.f [97, 98, 1, 38, 0, 196] = some ([97, 98], 0) := by decide +kernel
theorem sheerleglaw03_known_short : sum_Open.f [97, 98, 99] = some ([], 5) := by decide +kernel
theorem sheerleglaw03_known_nil : sum_Of.f [] = some 1 := by decide +kernel
theorem sheerleglaw03_known_of : sum_Of.f [97, 98] = some 19267780 := by decide +kernel
theorem sheerleglaw03_known_add : sum_Adder_Add.f 1 0 true [97, 98] = some (196, 294, true) := by decide +kernel
theorem sheerleglaw03_known_sum : sum_Adder_Sum.f 196 294 true = some (19267780, 196, 294, true) := by decide +kernel
set_option maxHeartbeats 8000000 in
set_option maxRecDepth 100000 in
theorem sheerleglaw03_known.calls (r : Bool) (w : World) (h : sheerleglaw03_known.f = some r) :
    Calls Try.prog 6 #[] w fun e w' => e = .returned (.bool r) ∧ Below w.heap.size w w' := by
  obtain rfl := (Option.some.inj h).symm
  clear h
  have kc := fun (w : World) (C : Array Value) (n c : Nat) => Lib.run_convert_bytes_const (P := Try.prog) w 22 5 C n c Try.underlying22 Try.underlying5
  go_enter Try.func6, Try.ntmps6
  go_wp2_with fail
  go_at_call 11
  refine (sum_Seal.calls (some ⟨w.heap.size, 0, none⟩) 2 [97, 98] [97, 98, 1, 38, 0, 196] _ (sheerleglaw03_known_row _ _ [97, 98] 5 (2, 3) (by decide) (sheerleglaw03_known_new _ _)) (by decide) sheerleglaw03_known_seal).mono ?_
  rintro e w1 ⟨v1, rfl, ho1, hb1⟩
  obtain ⟨A1, c1, rfl⟩ := Kd.R_slice ho1
  have X1 : Hid (Kd.R (Kd.int .u8) 5 w1 _ _ _ _ ∧ Below w.heap.size w w1) := ⟨ho1, below_then (below_alloc (Below.refl _ _) _) (below_size (below_alloc (Below.refl _ _) _)) hb1⟩
  clear ho1 hb1
  go_wp2_with fail
  go_at_call 7
  refine (sum_Open.calls A1 c1 [97, 98, 1, 38, 0, 196] [97, 98] 0 _ (Kd.R_reads' X1.out.1).2.2 (Kd.R_reads' X1.out.1).2.1 sheerleglaw03_known_open).mono ?_
  rintro e w2 ⟨v2, rfl, ho2, hb2⟩
  obtain ⟨A2, c2, rfl⟩ := Kd.R_slice ho2
  have X2 : Hid (Kd.C (Kd.int .u8) w2 A2 2 [97, 98] ∧ Below w.heap.size w w2) := ⟨(Kd.R_reads' ho2).2.2, below_step X1.out.2 hb2⟩
  clear ho2 hb2 X1
  go_wp2_with fail
  go_at_call 7
  refine (sum_Open.calls (some ⟨w2.heap.size, 0, none⟩) 3 [97, 98, 99] [] 5 _ (sheerleglaw03_known_row _ _ [97, 98, 99] 5 (3, 4) (by decide) (sheerleglaw03_known_new _ _)) (by decide) sheerleglaw03_known_short).mono ?_
  rintro e w3 ⟨v3, rfl, ho3, hb3⟩
  obtain ⟨A3, c3, rfl⟩ := Kd.R_slice ho3
  have X3 : Hid (Kd.C (Kd.int .u8) w3 A2 2 [97, 98] ∧ Below w.heap.size w w3) := ⟨Kd.C_below (Kd.C_alloc X2.out.1 _) hb3, below_step (below_alloc X2.out.2 _) hb3⟩
  clear ho3 hb3 X2
  go_wp2_with fail
  go_at_call 13
  refine (sum_New.calls 1 0 true w3 _ (Below.refl _ _) rfl).mono ?_
  rintro e w4 ⟨g, rfl, hI4, hB4, _⟩
  have X4 : Hid (IsS36 w3 w4 g 1 0 true ∧ Below w3.heap.size w3 w4) := ⟨hI4, hB4⟩
  clear hI4 hB4
  go_wp2_with fail
  go_at_call 14
  refine (sum_Adder_Add.calls g 1 0 true (some ⟨w4.heap.size, 0, none⟩) 2 [97, 98] 196 294 true w3 _ (IsS36.alloc X4.out.1 _) (below_alloc X4.out.2 _) (sheerleglaw03_known_row _ _ [97, 98] 5 (0, 0) (by decide) (sheerleglaw03_known_new _ _)) (by decide) (fun ad h _ => by obtain rfl := Option.some.inj h; have := IsS36.lt X4.out.1; intro h2; simp at h2; omega) sheerleglaw03_known_add).mono ?_
  rintro e w5 ⟨rfl, hI5, hB5, _⟩
  have X5 : Hid (IsS36 w3 w5 g 196 294 true ∧ Below w3.heap.size w3 w5) := ⟨hI5, hB5⟩
  clear hI5 hB5 X4
  go_wp2_with fail
  go_at_call 9
  refine (sum_Of.calls none 0 [] 1 _ (Kd.C_nil _ _) (by decide) sheerleglaw03_known_nil).mono ?_
  rintro e w6 ⟨rfl, hb6⟩
  have X6 : Hid (IsS36 w3 w6 g 196 294 true ∧ Below w3.heap.size w3 w6) := ⟨IsS36.below X5.out.1 hb6, below_step X5.out.2 hb6⟩
  clear hb6 X5

  have kstr : (convert 22 9 (.slice A2 2 c2)).run Try.prog w6 = .ok (.string { data := #[97, 98] }) w6 := (Kd.C_string Try.underlying22 Try.underlying5 Try.underlying9 (Kd.C_below X3.out.1 X6.out.2)).trans rfl
  go_wp2_with fail
  go_at_call 15
  clear kstr
  refine (sum_Adder_Sum.calls g 196 294 true 19267780 196 294 true w3 _ X6.out.1 X6.out.2 sheerleglaw03_known_sum).mono ?_
  rintro e w7 ⟨rfl, hI7, hB7, _⟩
  have X7 : Hid (Below w3.heap.size w3 w7) := hB7
  clear hI7 hB7 X6
  go_wp2_with fail
  go_at_call 9
  refine (sum_Of.calls (some ⟨w7.heap.size, 0, none⟩) 2 [97, 98] 19267780 _ (sheerleglaw03_known_row _ _ [97, 98] 5 (2, 3) (by decide) (sheerleglaw03_known_new _ _)) (by decide) sheerleglaw03_known_of).mono ?_
  rintro e w8 ⟨rfl, hb8⟩
  have X8 : Hid (Below w.heap.size w w8) := below_step X3.out.2 (below_step (below_alloc X7.out _) hb8)
  clear hb8 X7 X3
  go_wp2
  go_ret
  exact ⟨rfl, X8.out⟩

end Go.Proofs.Ytbplnfklimhdaaa.PG
