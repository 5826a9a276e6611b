-- Written by a program of this work (the print, with parts of our own); Lean checks it.
import Derived.Test.YtffcgkfdjifjkaaPGx0
import Derived.Test.YtffcgkfdjifjkaaPGx1
namespace Go.Proofs.Ytffcgkfdjifjkaa.PG
open Go.RowKit Go.Proofs.YtffcgkfdjifjkaaW.PrintWords Go.Proofs.YtffcgkfdjifjkaaW.PrintLast Go.Proofs.YtffcgkfdjifjkaaW.PrintMore
attribute [local go_sem] max2_int min2_int max_two min_two max_three min_three max_four min_four   -- for this text's walks alone
set_option linter.unusedVariables false
set_option linter.unusedSimpArgs false

/-! ### sheerlegref05_Is: function 15 -/
def sheerlegref05_Is.f (a0 : Int) : Option (Bool) := if a0 ≥ 0 then (some (decide (a0 ≤ 7))) else (some false)
set_option maxHeartbeats 8000000 in
set_option maxRecDepth 100000 in
theorem sheerlegref05_Is.calls (a0 : Int) (r : Bool) (w : World) (h : sheerlegref05_Is.f a0 = some r) :
    Calls Try.prog 15 #[.int .i64 a0] w fun e w' => e = .returned (.bool r) ∧ Drawn0 w w' := by
  have H : (if a0 ≥ 0 then (some (decide (a0 ≤ 7))) else (some false)) = some r := h
  clear h
  by_cases c2 : a0 ≥ 0
  · rw [if_pos c2] at H
    have c2b0 : decide (0 ≤ a0) = true := decide_eq_true c2
    clear c2
    obtain rfl := Option.some.inj H
    go_enter Try.func15, Try.ntmps15
    go_wp2
    go_ret
    exact ⟨by first | rfl | (simp; done) | (simp [*]; done), by repeat (first | exact Drawn0.refl _ | apply Drawn0.step)⟩
  · rw [if_neg c2] at H
    have c2b0 : decide (0 ≤ a0) = false := decide_eq_false c2
    clear c2
    obtain rfl := Option.some.inj H
    go_enter Try.func15, Try.ntmps15
    go_wp2
    go_ret
    exact ⟨by first | rfl | (simp; done) | (simp [*]; done), by repeat (first | exact Drawn0.refl _ | apply Drawn0.step)⟩

/-! ### sheerlegref05_Class: function 11 -/
def sheerlegref05_Class.f (a0 : Int) : Option (Int × Bool) := (sheerlegref05_Is.f (wrap64 (a0 - 1))).bind fun t131 => (if t131 = true then (some (wrap64 (a0 - 1), true)) else (some (0, false)))
set_option maxHeartbeats 8000000 in
set_option maxRecDepth 100000 in
theorem sheerlegref05_Class.calls (a0 : Int) (r1 : Int) (r2 : Bool) (w : World) (h : sheerlegref05_Class.f a0 = some (r1, r2)) :
    Calls Try.prog 11 #[.int .i64 a0] w fun e w' => e = .returned (.tuple #[.int .i64 r1, .bool r2]) ∧ Drawn0 w w' := by
  have H : ((sheerlegref05_Is.f (wrap64 (a0 - 1))).bind fun t131 => (if t131 = true then (some (wrap64 (a0 - 1), true)) else (some (0, false)))) = some (r1, r2) := h
  clear h
  replace H := Option.bind_eq_some_iff.mp H
  obtain ⟨t131, A20, H⟩ := H
  replace H : (if t131 = true then (some (wrap64 (a0 - 1), true)) else (some (0, false))) = some (r1, r2) := H
  have A2 := Aside0.mk A20
  clear A20
  by_cases c3 : t131 = true
  · subst c3
    have H1 : (some (wrap64 (a0 - 1), true)) = some (r1, r2) := by rw [if_pos rfl] at H; exact H
    clear H
    have H := H1
    clear H1
    simp only [Option.some.injEq, Prod.mk.injEq] at H
    obtain ⟨rfl, rfl⟩ := H
    go_enter Try.func11, Try.ntmps11
    go_wp2_with (first | ((with_reducible refine gate_callee (f := 15) rfl ?_); refine goesL_ (some 6) rfl rfl Try.func15 (by kernel_rfl) rfl #[.int .i64 (wrap64 (a0 - 1))] rfl (by (try simp only [List.map_toArray, List.map_cons, List.map_nil]); first | done | rfl | (simp only [List.length_drop, List.length_take]; rfl)) ?_; (with_reducible refine (sheerlegref05_Is.calls (wrap64 (a0 - 1)) true _ A2.out).mono ?_); rintro e w' ⟨rfl, ⟨nd, rfl⟩⟩; refine ⟨_, rfl, ?_⟩))
    go_ret2
    exact ⟨by first | rfl | (simp; done) | (simp [*]; done), by repeat (first | exact Drawn0.refl _ | apply Drawn0.step)⟩
  · replace c3 := Bool.eq_false_iff.mpr c3
    subst c3
    have H1 : (some (0, false)) = some (r1, r2) := by rw [if_neg (show ¬ (false = true) by decide)] at H; exact H
    clear H
    have H := H1
    clear H1
    simp only [Option.some.injEq, Prod.mk.injEq] at H
    obtain ⟨rfl, rfl⟩ := H
    go_enter Try.func11, Try.ntmps11
    go_wp2_with (first | ((with_reducible refine gate_callee (f := 15) rfl ?_); refine goesL_ (some 6) rfl rfl Try.func15 (by kernel_rfl) rfl #[.int .i64 (wrap64 (a0 - 1))] rfl (by (try simp only [List.map_toArray, List.map_cons, List.map_nil]); first | done | rfl | (simp only [List.length_drop, List.length_take]; rfl)) ?_; (with_reducible refine (sheerlegref05_Is.calls (wrap64 (a0 - 1)) false _ A2.out).mono ?_); rintro e w' ⟨rfl, ⟨nd, rfl⟩⟩; refine ⟨_, rfl, ?_⟩))
    go_ret2
    exact ⟨by first | rfl | (simp; done) | (simp [*]; done), by repeat (first | exact Drawn0.refl _ | apply Drawn0.step)⟩

/-! ### sheerlegref01_Digits: function 39 -/
def sheerlegref01_Digits.l0 : Nat → Int → ByteArray → Int → Option (ByteArray)
  | 0, _, _, _ => none
  | k + 1, x0, x3, x4 => if x4 = 0 then (if x0 < 0 then (if 1 + x3.size ≤ 9223372036854775807 then (some ((⟨#[45]⟩ : ByteArray) ++ x3)) else (none)) else (some x3)) else (if (Int.tmod x4 10) < 0 then ((some (([(wrap64 (48 + (wrap64 (-(Int.tmod x4 10))))) % 256] : List Int) : List Int)).bind fun y132 => (if (strOfNums y132).size + x3.size ≤ 9223372036854775807 then (sheerlegref01_Digits.l0 k x0 ((strOfNums y132) ++ x3) (wrap64 (Int.tdiv x4 10))) else (none))) else ((some (([(wrap64 (48 + (Int.tmod x4 10))) % 256] : List Int) : List Int)).bind fun y135 => (if (strOfNums y135).size + x3.size ≤ 9223372036854775807 then (sheerlegref01_Digits.l0 k x0 ((strOfNums y135) ++ x3) (wrap64 (Int.tdiv x4 10))) else (none))))
def sheerlegref01_Digits.f (k : Nat) (a0 : Int) : Option (ByteArray) := if a0 = 0 then (some (⟨#[48]⟩ : ByteArray)) else (sheerlegref01_Digits.l0 k a0 (⟨#[]⟩ : ByteArray) a0)
theorem sheerlegref01_Digits.mono_l : ∀ k, (∀ y0 y1 y2, LeO (sheerlegref01_Digits.l0 k y0 y1 y2) (sheerlegref01_Digits.l0 (k + 1) y0 y1 y2))
  | 0 => fun _ _ _ r h => by simp [sheerlegref01_Digits.l0] at h
  | k + 1 => by
    have ih0 := sheerlegref01_Digits.mono_l k
    · intro y0 y1 y2
      unfold sheerlegref01_Digits.l0
      repeat' first
      | (with_reducible exact ih0 _ _ _)
      | (with_reducible exact LeO.refl _)
      | (with_reducible exact LeO.none _)
      | (with_reducible refine LeO.ite ?_ ?_)
      | (with_reducible refine LeO.bind ?_ (fun _ => ?_))
      | exact ih0 _ _ _
      | exact LeO.none _
      | refine LeO.ite ?_ ?_
      | refine LeO.bind ?_ (fun _ => ?_)
theorem sheerlegref01_Digits.mono : ∀ a0 k, LeO (sheerlegref01_Digits.f k a0) (sheerlegref01_Digits.f (k + 1) a0) := by
  intro a0 k
  have ih0 := sheerlegref01_Digits.mono_l k
  unfold sheerlegref01_Digits.f
  repeat' first
      | (with_reducible exact ih0 _ _ _)
      | (with_reducible exact LeO.refl _)
      | (with_reducible exact LeO.none _)
      | (with_reducible refine LeO.ite ?_ ?_)
      | (with_reducible refine LeO.bind ?_ (fun _ => ?_))
      | exact ih0 _ _ _
      | exact LeO.none _
      | refine LeO.ite ?_ ?_
      | refine LeO.bind ?_ (fun _ => ?_)
set_option maxHeartbeats 8000000 in
set_option maxRecDepth 100000 in
theorem sheerlegref01_Digits.calls (k : Nat) (a0 : Int) (r : ByteArray) (w : World) (h : sheerlegref01_Digits.f k a0 = some r) :
    Calls Try.prog 39 #[.int .i64 a0] w fun e w' => e = .returned (.string r) ∧ Below w.heap.size w w' := by
  have HB := Aside0.mk (Below.refl w.heap.size w)
  have H : (if a0 = 0 then (some (⟨#[48]⟩ : ByteArray)) else (sheerlegref01_Digits.l0 k a0 (⟨#[]⟩ : ByteArray) a0)) = some r := h
  clear h
  by_cases c2 : a0 = 0
  · rw [if_pos c2] at H
    have c2b0 : (a0 == 0) = true := beq_iff_eq.mpr c2
    have c2b1 : (a0 != 0) = false := bne_eq_false_iff_eq.mpr c2
    clear c2
    obtain rfl := Option.some.inj H
    go_enter Try.func39, Try.ntmps39
    go_wp2
    go_ret
    exact ⟨by first | rfl | (simp [errW_none, errW_some] <;> rfl) | (simp [*, errW_none, errW_some] <;> rfl), by repeat (first | (with_reducible first | exact HB.out | apply below_alloc | apply pw_below_drewN | apply below_drew1) | exact HB.out)⟩
  · rw [if_neg c2] at H
    have c2b0 : (a0 == 0) = false := beq_eq_false_iff_ne.mpr c2
    have c2b1 : (a0 != 0) = true := bne_iff_ne.mpr c2
    have H' := Aside0.mk H
    clear H
    go_enter Try.func39, Try.ntmps39
    go_wp2
    go_loopg [3, 4] k (fun kq v3 v4 w' => ∃ (x3_1 : ByteArray) (x4_1 : Int), v3 = .string x3_1 ∧ v4 = .int .i64 x4_1 ∧ Aside0 (sheerlegref01_Digits.l0 kq a0 x3_1 x4_1 = some r) ∧ Aside0 (kq ≤ k) ∧ Aside0 (Below w.heap.size w w'))
    case atStart => exact ⟨((⟨#[]⟩ : ByteArray)), (a0), (by first | rfl | (simp; done) | (simp [*]; done)), (by first | rfl | (simp; done) | (simp [*]; done)), H', ⟨Nat.le_refl _⟩, ⟨by repeat (first | (with_reducible first | exact HB.out | apply below_alloc | apply pw_below_drewN | apply below_drew1) | exact HB.out)⟩⟩
    case round =>
      clear H'
      try clear c2
      try clear c2b0
      try clear c2b1
      try clear p2
      obtain ⟨x3_1, x4_1, rfl, rfl, HA, HK1, HB⟩ := hrel
      cases gk with
      | zero => exact absurd HA.out (by simp [sheerlegref01_Digits.l0])
      | succ k1 =>
        have H := HA.out
        clear HA
        simp only [sheerlegref01_Digits.l0] at H
        by_cases c3 : x4_1 = 0
        · rw [if_pos c3] at H
          have c3b0 : (x4_1 == 0) = true := beq_iff_eq.mpr c3
          have c3b1 : (x4_1 != 0) = false := bne_eq_false_iff_eq.mpr c3
          clear c3
          by_cases c4 : a0 < 0
          · rw [if_pos c4] at H
            have c4b0 : decide (a0 < 0) = true := decide_eq_true c4
            clear c4
            by_cases c5 : 1 + x3_1.size ≤ 9223372036854775807
            · rw [if_pos c5] at H
              have c5b0 := eq_true c5
              have c5b1 : decide (1 + x3_1.size ≤ 9223372036854775807) = true := decide_eq_true c5
              try have c5b2 : (9223372036854775807 < 1 + x3_1.size) = False := eq_false (Nat.not_lt.2 c5)
              obtain rfl := Option.some.inj H
              go_wp2
              go_ret
              exact ⟨by first | rfl | (simp [errW_none, errW_some] <;> rfl) | (simp [*, errW_none, errW_some] <;> rfl), by repeat (first | (with_reducible first | exact HB.out | apply below_alloc | apply pw_below_drewN | apply below_drew1) | exact HB.out)⟩
            · rw [if_neg c5] at H
              exact absurd H (by simp)
          · rw [if_neg c4] at H
            have c4b0 : decide (a0 < 0) = false := decide_eq_false c4
            clear c4
            obtain rfl := Option.some.inj H
            go_wp2
            go_ret
            exact ⟨by first | rfl | (simp [errW_none, errW_some] <;> rfl) | (simp [*, errW_none, errW_some] <;> rfl), by repeat (first | (with_reducible first | exact HB.out | apply below_alloc | apply pw_below_drewN | apply below_drew1) | exact HB.out)⟩
        · rw [if_neg c3] at H
          have c3b0 : (x4_1 == 0) = false := beq_eq_false_iff_ne.mpr c3
          have c3b1 : (x4_1 != 0) = true := bne_iff_ne.mpr c3
          by_cases c6 : (Int.tmod x4_1 10) < 0
          · rw [if_pos c6] at H
            have c6b0 : decide ((Int.tmod x4_1 10) < 0) = true := decide_eq_true c6
            clear c6
            obtain ⟨y132, hy132⟩ : ∃ y_ : List Int, y_ = (([(wrap64 (48 + (wrap64 (-(Int.tmod x4_1 10))))) % 256] : List Int)) := ⟨_, rfl⟩
            replace H : (if (strOfNums y132).size + x3_1.size ≤ 9223372036854775807 then (sheerlegref01_Digits.l0 k1 a0 ((strOfNums y132) ++ x3_1) (wrap64 (Int.tdiv x4_1 10))) else (none)) = some r := by first | (rw [hy132]; with_reducible exact H) | (have H2_ := (Option.bind_some _ _).symm.trans H; rw [hy132]; with_reducible exact H2_) | (have H2_ := (Option.bind_some _ _).symm.trans H; with_reducible exact H2_) | with_reducible exact H | (rw [hy132]; exact H) | exact H
            have Ny132 := Aside0.mk hy132
            clear hy132
            by_cases c7 : (strOfNums y132).size + x3_1.size ≤ 9223372036854775807
            · rw [if_pos c7] at H
              have c7b0 := eq_true c7
              have c7b1 : decide ((strOfNums y132).size + x3_1.size ≤ 9223372036854775807) = true := decide_eq_true c7
              try have c7b2 : (9223372036854775807 < (strOfNums y132).size + x3_1.size) = False := eq_false (Nat.not_lt.2 c7)
              have H' := Aside0.mk H
              clear H
              go_wp2_with (first | ((with_reducible refine gate_dst (N := 22) rfl ?_); refine Kd.R_lit (Kd.int .u8) _ 5 ?hg (N := 22) ?hd (xs := ([(wrap64 (48 + (wrap64 (-(Int.tmod x4_1 10))))) % 256] : List Int)) (inner := [.int .u8 ((wrap64 (48 + (wrap64 (-(Int.tmod x4_1 10))))) % 256)]) (ok := fun _ => True) (okp := fun _ => True) ?hr ?hp (fun _ hk => hk) trivial (Below.refl _ _) (Nat.le_refl _) (by simp) ?_; (case hd => rfl); (case hg => rfl); (case hr => first | (go_simp; done) | (go_simp; rfl)); (case hp => exact (Reps.one (show Kd.M (Kd.int .u8) _ _ _ ((wrap64 (48 + (wrap64 (-(Int.tmod x4_1 10))))) % 256) [.int .u8 ((wrap64 (48 + (wrap64 (-(Int.tmod x4_1 10))))) % 256)] from rfl) (Reps.none _ _))); intro v133 w8 ho9 hb hg_ hnew_; clear hg_ hnew_; (first | rw [← Ny132.out] at ho9 | (simp only [Int.reduceToNat] at ho9; rw [← Ny132.out] at ho9)); have n0_ := Aside0.mk (Kd.R_lower ho9 (below_size (by repeat (first | (with_reducible first | exact HB.out | apply below_alloc | apply pw_below_drewN | apply below_drew1) | exact HB.out)))); have n1_ := Aside0.mk (below_step (by repeat (first | (with_reducible first | exact HB.out | apply below_alloc | apply pw_below_drewN | apply below_drew1) | exact HB.out)) hb); clear HB; have HO134 := n0_; have HB := n1_; clear n0_ n1_; clear hb ho9; have hcv10 := own_string (P := Try.prog) Try.underlying43 Try.underlying5 Try.underlying9 (Kd.own_of_R HO134.out)))
              go_roundg k1
              case measure => have := HK1.out; omega
              case rel => exact ⟨((strOfNums y132) ++ x3_1), (wrap64 (Int.tdiv x4_1 10)), (by first | rfl | (simp; done) | (simp [*]; done)), (by first | rfl | (simp; done) | (simp [*]; done)), H', ⟨by have := HK1.out; omega⟩, ⟨by repeat (first | (with_reducible first | exact HB.out | apply below_alloc | apply pw_below_drewN | apply below_drew1) | exact HB.out)⟩⟩
            · rw [if_neg c7] at H
              exact absurd H (by simp)
          · rw [if_neg c6] at H
            have c6b0 : decide ((Int.tmod x4_1 10) < 0) = false := decide_eq_false c6
            clear c6
            obtain ⟨y135, hy135⟩ : ∃ y_ : List Int, y_ = (([(wrap64 (48 + (Int.tmod x4_1 10))) % 256] : List Int)) := ⟨_, rfl⟩
            replace H : (if (strOfNums y135).size + x3_1.size ≤ 9223372036854775807 then (sheerlegref01_Digits.l0 k1 a0 ((strOfNums y135) ++ x3_1) (wrap64 (Int.tdiv x4_1 10))) else (none)) = some r := by first | (rw [hy135]; with_reducible exact H) | (have H2_ := (Option.bind_some _ _).symm.trans H; rw [hy135]; with_reducible exact H2_) | (have H2_ := (Option.bind_some _ _).symm.trans H; with_reducible exact H2_) | with_reducible exact H | (rw [hy135]; exact H) | exact H
            have Ny135 := Aside0.mk hy135
            clear hy135
            by_cases c11 : (strOfNums y135).size + x3_1.size ≤ 9223372036854775807
            · rw [if_pos c11] at H
              have c11b0 := eq_true c11
              have c11b1 : decide ((strOfNums y135).size + x3_1.size ≤ 9223372036854775807) = true := decide_eq_true c11
              try have c11b2 : (9223372036854775807 < (strOfNums y135).size + x3_1.size) = False := eq_false (Nat.not_lt.2 c11)
              have H' := Aside0.mk H
              clear H
              go_wp2_with (first | ((with_reducible refine gate_dst (N := 22) rfl ?_); refine Kd.R_lit (Kd.int .u8) _ 5 ?hg (N := 22) ?hd (xs := ([(wrap64 (48 + (Int.tmod x4_1 10))) % 256] : List Int)) (inner := [.int .u8 ((wrap64 (48 + (Int.tmod x4_1 10))) % 256)]) (ok := fun _ => True) (okp := fun _ => True) ?hr ?hp (fun _ hk => hk) trivial (Below.refl _ _) (Nat.le_refl _) (by simp) ?_; (case hd => rfl); (case hg => rfl); (case hr => first | (go_simp; done) | (go_simp; rfl)); (case hp => exact (Reps.one (show Kd.M (Kd.int .u8) _ _ _ ((wrap64 (48 + (Int.tmod x4_1 10))) % 256) [.int .u8 ((wrap64 (48 + (Int.tmod x4_1 10))) % 256)] from rfl) (Reps.none _ _))); intro v136 w12 ho13 hb hg_ hnew_; clear hg_ hnew_; (first | rw [← Ny135.out] at ho13 | (simp only [Int.reduceToNat] at ho13; rw [← Ny135.out] at ho13)); have n0_ := Aside0.mk (Kd.R_lower ho13 (below_size (by repeat (first | (with_reducible first | exact HB.out | apply below_alloc | apply pw_below_drewN | apply below_drew1) | exact HB.out)))); have n1_ := Aside0.mk (below_step (by repeat (first | (with_reducible first | exact HB.out | apply below_alloc | apply pw_below_drewN | apply below_drew1) | exact HB.out)) hb); clear HB; have HO137 := n0_; have HB := n1_; clear n0_ n1_; clear hb ho13; have hcv14 := own_string (P := Try.prog) Try.underlying43 Try.underlying5 Try.underlying9 (Kd.own_of_R HO137.out)))
              go_roundg k1
              case measure => have := HK1.out; omega
              case rel => exact ⟨((strOfNums y135) ++ x3_1), (wrap64 (Int.tdiv x4_1 10)), (by first | rfl | (simp; done) | (simp [*]; done)), (by first | rfl | (simp; done) | (simp [*]; done)), H', ⟨by have := HK1.out; omega⟩, ⟨by repeat (first | (with_reducible first | exact HB.out | apply below_alloc | apply pw_below_drewN | apply below_drew1) | exact HB.out)⟩⟩
            · rw [if_neg c11] at H
              exact absurd H (by simp)

/-! ### sheerlegref05_Text: function 23 -/
def sheerlegref05_Text.f (k : Nat) (a0 : Int) : Option (ByteArray) := if a0 = 0 then (some (⟨#[110]⟩ : ByteArray)) else ((sheerlegref05_Class.f a0).bind fun bt138 => (if bt138.2 = true then ((sheerlegref01_Digits.f k (wrap64 (Int.tdiv bt138.1 2))).bind fun t140 => (if 1 + t140.size ≤ 9223372036854775807 then (if (Int.tmod bt138.1 2) = 1 then (if 1 + t140.size + 1 ≤ 9223372036854775807 then (some (((⟨#[102]⟩ : ByteArray) ++ t140) ++ (⟨#[114]⟩ : ByteArray))) else (none)) else (some ((⟨#[102]⟩ : ByteArray) ++ t140))) else (none))) else (some (⟨#[]⟩ : ByteArray))))
theorem sheerlegref05_Text.mono : ∀ a0 k, LeO (sheerlegref05_Text.f k a0) (sheerlegref05_Text.f (k + 1) a0) := by
  intro a0 k
  unfold sheerlegref05_Text.f
  repeat' first
      | (with_reducible exact sheerlegref01_Digits.mono _ _)
      | (with_reducible exact LeO.refl _)
      | (with_reducible exact LeO.none _)
      | (with_reducible refine LeO.ite ?_ ?_)
      | (with_reducible refine LeO.bind ?_ (fun _ => ?_))
      | exact sheerlegref01_Digits.mono _ _
      | exact LeO.none _
      | refine LeO.ite ?_ ?_
      | refine LeO.bind ?_ (fun _ => ?_)
set_option maxHeartbeats 8000000 in
set_option maxRecDepth 100000 in
theorem sheerlegref05_Text.calls (k : Nat) (a0 : Int) (r : ByteArray) (w : World) (h : sheerlegref05_Text.f k a0 = some r) :
    Calls Try.prog 23 #[.int .i64 a0] w fun e w' => e = .returned (.string r) ∧ Below w.heap.size w w' := by
  have HB := Aside0.mk (Below.refl w.heap.size w)
  have H : (if a0 = 0 then (some (⟨#[110]⟩ : ByteArray)) else ((sheerlegref05_Class.f a0).bind fun bt138 => (if bt138.2 = true then ((sheerlegref01_Digits.f k (wrap64 (Int.tdiv bt138.1 2))).bind fun t140 => (if 1 + t140.size ≤ 9223372036854775807 then (if (Int.tmod bt138.1 2) = 1 then (if 1 + t140.size + 1 ≤ 9223372036854775807 then (some (((⟨#[102]⟩ : ByteArray) ++ t140) ++ (⟨#[114]⟩ : ByteArray))) else (none)) else (some ((⟨#[102]⟩ : ByteArray) ++ t140))) else (none))) else (some (⟨#[]⟩ : ByteArray))))) = some r := h
  clear h
  by_cases c2 : a0 = 0
  · rw [if_pos c2] at H
    have c2b0 : (a0 == 0) = true := beq_iff_eq.mpr c2
    have c2b1 : (a0 != 0) = false := bne_eq_false_iff_eq.mpr c2
    clear c2
    obtain rfl := Option.some.inj H
    go_enter Try.func23, Try.ntmps23
    go_wp2
    go_ret
    exact ⟨by first | rfl | (simp [errW_none, errW_some] <;> rfl) | (simp [*, errW_none, errW_some] <;> rfl), by repeat (first | (with_reducible first | exact HB.out | apply below_alloc | apply pw_below_drewN | apply below_drew1) | exact HB.out)⟩
  · rw [if_neg c2] at H
    have c2b0 : (a0 == 0) = false := beq_eq_false_iff_ne.mpr c2
    have c2b1 : (a0 != 0) = true := bne_iff_ne.mpr c2
    replace H := Option.bind_eq_some_iff.mp H
    obtain ⟨⟨t138, t139⟩, A30, H⟩ := H
    replace H : (if t139 = true then ((sheerlegref01_Digits.f k (wrap64 (Int.tdiv t138 2))).bind fun t140 => (if 1 + t140.size ≤ 9223372036854775807 then (if (Int.tmod t138 2) = 1 then (if 1 + t140.size + 1 ≤ 9223372036854775807 then (some (((⟨#[102]⟩ : ByteArray) ++ t140) ++ (⟨#[114]⟩ : ByteArray))) else (none)) else (some ((⟨#[102]⟩ : ByteArray) ++ t140))) else (none))) else (some (⟨#[]⟩ : ByteArray))) = some r := H
    have A3 := Aside0.mk A30
    clear A30
    by_cases c4 : t139 = true
    · subst c4
      have H1 : ((sheerlegref01_Digits.f k (wrap64 (Int.tdiv t138 2))).bind fun t140 => (if 1 + t140.size ≤ 9223372036854775807 then (if (Int.tmod t138 2) = 1 then (if 1 + t140.size + 1 ≤ 9223372036854775807 then (some (((⟨#[102]⟩ : ByteArray) ++ t140) ++ (⟨#[114]⟩ : ByteArray))) else (none)) else (some ((⟨#[102]⟩ : ByteArray) ++ t140))) else (none))) = some r := by rw [if_pos rfl] at H; exact H
      clear H
      have H := H1
      clear H1
      replace H := Option.bind_eq_some_iff.mp H
      obtain ⟨t140, A50, H⟩ := H
      replace H : (if 1 + t140.size ≤ 9223372036854775807 then (if (Int.tmod t138 2) = 1 then (if 1 + t140.size + 1 ≤ 9223372036854775807 then (some (((⟨#[102]⟩ : ByteArray) ++ t140) ++ (⟨#[114]⟩ : ByteArray))) else (none)) else (some ((⟨#[102]⟩ : ByteArray) ++ t140))) else (none)) = some r := H
      have A5 := Aside0.mk A50
      clear A50
      by_cases c6 : 1 + t140.size ≤ 9223372036854775807
      · rw [if_pos c6] at H
        have c6b0 := eq_true c6
        have c6b1 : decide (1 + t140.size ≤ 9223372036854775807) = true := decide_eq_true c6
        try have c6b2 : (9223372036854775807 < 1 + t140.size) = False := eq_false (Nat.not_lt.2 c6)
        by_cases c7 : (Int.tmod t138 2) = 1
        · rw [if_pos c7] at H
          have c7b0 : ((Int.tmod t138 2) == 1) = true := beq_iff_eq.mpr c7
          have c7b1 : ((Int.tmod t138 2) != 1) = false := bne_eq_false_iff_eq.mpr c7
          clear c7
          by_cases c8 : 1 + t140.size + 1 ≤ 9223372036854775807
          · rw [if_pos c8] at H
            have c8b0 := eq_true c8
            have c8b1 : decide (1 + t140.size + 1 ≤ 9223372036854775807) = true := decide_eq_true c8
            try have c8b2 : (9223372036854775807 < 1 + t140.size + 1) = False := eq_false (Nat.not_lt.2 c8)
            obtain rfl := Option.some.inj H
            go_enter Try.func23, Try.ntmps23
            go_wp2_with (first | ((with_reducible refine gate_callee (f := 11) rfl ?_); refine goesL_ (some 10) rfl rfl Try.func11 (by kernel_rfl) rfl #[.int .i64 a0] rfl (by (try simp only [List.map_toArray, List.map_cons, List.map_nil]); first | done | rfl | (simp only [List.length_drop, List.length_take]; rfl)) ?_; (with_reducible refine (sheerlegref05_Class.calls a0 t138 true _ A3.out).mono ?_); rintro e w' ⟨rfl, ⟨nd, rfl⟩⟩; refine ⟨_, rfl, ?_⟩) | ((with_reducible refine gate_callee (f := 39) rfl ?_); refine goesL_ (some 17) rfl rfl Try.func39 (by kernel_rfl) rfl #[.int .i64 (wrap64 (Int.tdiv t138 2))] rfl (by (try simp only [List.map_toArray, List.map_cons, List.map_nil]); first | done | rfl | (simp only [List.length_drop, List.length_take]; rfl)) ?_; (with_reducible refine (sheerlegref01_Digits.calls k (wrap64 (Int.tdiv t138 2)) t140 _ A5.out).mono ?_); rintro e w9 ⟨rfl, hb⟩; refine ⟨_, rfl, ?_⟩; have n0_ := Aside0.mk (below_step (by repeat (first | (with_reducible first | exact HB.out | apply below_alloc | apply pw_below_drewN | apply below_drew1) | exact HB.out)) hb); clear HB; have HB := n0_; clear n0_; (try clear hb); (try clear hb2); (try clear hk); (try clear hi)))
            go_ret
            exact ⟨by first | rfl | (simp [errW_none, errW_some] <;> rfl) | (simp [*, errW_none, errW_some] <;> rfl), by repeat (first | (with_reducible first | exact HB.out | apply below_alloc | apply pw_below_drewN | apply below_drew1) | exact HB.out)⟩
          · rw [if_neg c8] at H
            exact absurd H (by simp)
        · rw [if_neg c7] at H
          have c7b0 : ((Int.tmod t138 2) == 1) = false := beq_eq_false_iff_ne.mpr c7
          have c7b1 : ((Int.tmod t138 2) != 1) = true := bne_iff_ne.mpr c7
          obtain rfl := Option.some.inj H
          go_enter Try.func23, Try.ntmps23
          go_wp2_with (first | ((with_reducible refine gate_callee (f := 11) rfl ?_); refine goesL_ (some 10) rfl rfl Try.func11 (by kernel_rfl) rfl #[.int .i64 a0] rfl (by (try simp only [List.map_toArray, List.map_cons, List.map_nil]); first | done | rfl | (simp only [List.length_drop, List.length_take]; rfl)) ?_; (with_reducible refine (sheerlegref05_Class.calls a0 t138 true _ A3.out).mono ?_); rintro e w' ⟨rfl, ⟨nd, rfl⟩⟩; refine ⟨_, rfl, ?_⟩) | ((with_reducible refine gate_callee (f := 39) rfl ?_); refine goesL_ (some 17) rfl rfl Try.func39 (by kernel_rfl) rfl #[.int .i64 (wrap64 (Int.tdiv t138 2))] rfl (by (try simp only [List.map_toArray, List.map_cons, List.map_nil]); first | done | rfl | (simp only [List.length_drop, List.length_take]; rfl)) ?_; (with_reducible refine (sheerlegref01_Digits.calls k (wrap64 (Int.tdiv t138 2)) t140 _ A5.out).mono ?_); rintro e w10 ⟨rfl, hb⟩; refine ⟨_, rfl, ?_⟩; have n0_ := Aside0.mk (below_step (by repeat (first | (with_reducible first | exact HB.out | apply below_alloc | apply pw_below_drewN | apply below_drew1) | exact HB.out)) hb); clear HB; have HB := n0_; clear n0_; (try clear hb); (try clear hb2); (try clear hk); (try clear hi)))
          go_ret
          exact ⟨by first | rfl | (simp [errW_none, errW_some] <;> rfl) | (simp [*, errW_none, errW_some] <;> rfl), by repeat (first | (with_reducible first | exact HB.out | apply below_alloc | apply pw_below_drewN | apply below_drew1) | exact HB.out)⟩
      · rw [if_neg c6] at H
        exact absurd H (by simp)
    · replace c4 := Bool.eq_false_iff.mpr c4
      subst c4
      have H1 : (some (⟨#[]⟩ : ByteArray)) = some r := by rw [if_neg (show ¬ (false = true) by decide)] at H; exact H
      clear H
      have H := H1
      clear H1
      obtain rfl := Option.some.inj H
      go_enter Try.func23, Try.ntmps23
      go_wp2_with (first | ((with_reducible refine gate_callee (f := 11) rfl ?_); refine goesL_ (some 10) rfl rfl Try.func11 (by kernel_rfl) rfl #[.int .i64 a0] rfl (by (try simp only [List.map_toArray, List.map_cons, List.map_nil]); first | done | rfl | (simp only [List.length_drop, List.length_take]; rfl)) ?_; (with_reducible refine (sheerlegref05_Class.calls a0 t138 false _ A3.out).mono ?_); rintro e w' ⟨rfl, ⟨nd, rfl⟩⟩; refine ⟨_, rfl, ?_⟩))
      go_ret
      exact ⟨by first | rfl | (simp [errW_none, errW_some] <;> rfl) | (simp [*, errW_none, errW_some] <;> rfl), by repeat (first | (with_reducible first | exact HB.out | apply below_alloc | apply pw_below_drewN | apply below_drew1) | exact HB.out)⟩

/-! ### sheerlegref05_Parse: function 13 -/
def sheerlegref05_Parse.l0 : Nat → ByteArray → Int → Option (Int × Bool)
  | 0, _, _ => none
  | k + 1, x0, x4 => if x4 ≤ 8 then ((sheerlegref05_Text.f k x4).bind fun t141 => (if t141.toList = x0.toList then (some (x4, true)) else (sheerlegref05_Parse.l0 k x0 (wrap64 (x4 + 1))))) else (some (0, false))
def sheerlegref05_Parse.f (k : Nat) (a0 : ByteArray) : Option (Int × Bool) := sheerlegref05_Parse.l0 k a0 0
theorem sheerlegref05_Parse.mono_l : ∀ k, (∀ y0 y1, LeO (sheerlegref05_Parse.l0 k y0 y1) (sheerlegref05_Parse.l0 (k + 1) y0 y1))
  | 0 => fun _ _ r h => by simp [sheerlegref05_Parse.l0] at h
  | k + 1 => by
    have ih0 := sheerlegref05_Parse.mono_l k
    · intro y0 y1
      unfold sheerlegref05_Parse.l0
      repeat' first
      | (with_reducible exact ih0 _ _)
      | (with_reducible exact sheerlegref05_Text.mono _ _)
      | (with_reducible exact LeO.refl _)
      | (with_reducible exact LeO.none _)
      | (with_reducible refine LeO.ite ?_ ?_)
      | (with_reducible refine LeO.bind ?_ (fun _ => ?_))
      | exact ih0 _ _
      | exact sheerlegref05_Text.mono _ _
      | exact LeO.none _
      | refine LeO.ite ?_ ?_
      | refine LeO.bind ?_ (fun _ => ?_)
theorem sheerlegref05_Parse.mono : ∀ a0 k, LeO (sheerlegref05_Parse.f k a0) (sheerlegref05_Parse.f (k + 1) a0) := by
  intro a0 k
  have ih0 := sheerlegref05_Parse.mono_l k
  unfold sheerlegref05_Parse.f
  repeat' first
      | (with_reducible exact ih0 _ _)
      | (with_reducible exact sheerlegref05_Text.mono _ _)
      | (with_reducible exact LeO.refl _)
      | (with_reducible exact LeO.none _)
      | (with_reducible refine LeO.ite ?_ ?_)
      | (with_reducible refine LeO.bind ?_ (fun _ => ?_))
      | exact ih0 _ _
      | exact sheerlegref05_Text.mono _ _
      | exact LeO.none _
      | refine LeO.ite ?_ ?_
      | refine LeO.bind ?_ (fun _ => ?_)
set_option maxHeartbeats 8000000 in
set_option maxRecDepth 100000 in
theorem sheerlegref05_Parse.calls (k : Nat) (a0 : ByteArray) (r1 : Int) (r2 : Bool) (w : World) (h : sheerlegref05_Parse.f k a0 = some (r1, r2)) :
    Calls Try.prog 13 #[.string a0] w fun e w' => e = .returned (.tuple #[.int .i64 r1, .bool r2]) ∧ Below w.heap.size w w' := by
  have HB := Aside0.mk (Below.refl w.heap.size w)
  have H : (sheerlegref05_Parse.l0 k a0 0) = some (r1, r2) := h
  clear h
  have H' := Aside0.mk H
  clear H
  go_enter Try.func13, Try.ntmps13
  go_wp2
  go_loopg [4] k (fun kq v4 w' => ∃ (x4_1 : Int), v4 = .int .i64 x4_1 ∧ Aside0 (sheerlegref05_Parse.l0 kq a0 x4_1 = some (r1, r2)) ∧ Aside0 (kq ≤ k) ∧ Aside0 (Below w.heap.size w w'))
  case atStart => exact ⟨(0), (by first | rfl | (simp; done) | (simp [*]; done)), H', ⟨Nat.le_refl _⟩, ⟨by repeat (first | (with_reducible first | exact HB.out | apply below_alloc | apply pw_below_drewN | apply below_drew1) | exact HB.out)⟩⟩
  case round =>
    clear H'
    try clear c1
    obtain ⟨x4_1, rfl, HA, HK1, HB⟩ := hrel
    cases gk with
    | zero => exact absurd HA.out (by simp [sheerlegref05_Parse.l0])
    | succ k1 =>
      have H := HA.out
      clear HA
      simp only [sheerlegref05_Parse.l0] at H
      by_cases c2 : x4_1 ≤ 8
      · rw [if_pos c2] at H
        have c2b0 : decide (x4_1 ≤ 8) = true := decide_eq_true c2
        clear c2
        replace H := Option.bind_eq_some_iff.mp H
        obtain ⟨t141, A30, H⟩ := H
        replace H : (if t141.toList = a0.toList then (some (x4_1, true)) else (sheerlegref05_Parse.l0 k1 a0 (wrap64 (x4_1 + 1)))) = some (r1, r2) := H
        have A3 := Aside0.mk A30
        clear A30
        by_cases c4 : t141.toList = a0.toList
        · rw [if_pos c4] at H
          have c4b0 : (t141.toList == a0.toList) = true := beq_iff_eq.mpr c4
          have c4b1 : (t141.toList != a0.toList) = false := bne_eq_false_iff_eq.mpr c4
          clear c4
          simp only [Option.some.injEq, Prod.mk.injEq] at H
          obtain ⟨rfl, rfl⟩ := H
          go_wp2_with (first | ((with_reducible refine gate_callee (f := 23) rfl ?_); refine goesL_ (some 10) rfl rfl Try.func23 (by kernel_rfl) rfl #[.int .i64 x4_1] rfl (by (try simp only [List.map_toArray, List.map_cons, List.map_nil]); first | done | rfl | (simp only [List.length_drop, List.length_take]; rfl)) ?_; (with_reducible refine (sheerlegref05_Text.calls k1 x4_1 t141 _ A3.out).mono ?_); rintro e w5 ⟨rfl, hb⟩; refine ⟨_, rfl, ?_⟩; have n0_ := Aside0.mk (below_step (by repeat (first | (with_reducible first | exact HB.out | apply below_alloc | apply pw_below_drewN | apply below_drew1) | exact HB.out)) hb); clear HB; have HB := n0_; clear n0_; (try clear hb); (try clear hb2); (try clear hk); (try clear hi)))
          go_ret2
          exact ⟨by first | rfl | (simp [errW_none, errW_some] <;> rfl) | (simp [*, errW_none, errW_some] <;> rfl), by repeat (first | (with_reducible first | exact HB.out | apply below_alloc | apply pw_below_drewN | apply below_drew1) | exact HB.out)⟩
        · rw [if_neg c4] at H
          have c4b0 : (t141.toList == a0.toList) = false := beq_eq_false_iff_ne.mpr c4
          have c4b1 : (t141.toList != a0.toList) = true := bne_iff_ne.mpr c4
          have H' := Aside0.mk H
          clear H
          go_wp2_with (first | ((with_reducible refine gate_callee (f := 23) rfl ?_); refine goesL_ (some 10) rfl rfl Try.func23 (by kernel_rfl) rfl #[.int .i64 x4_1] rfl (by (try simp only [List.map_toArray, List.map_cons, List.map_nil]); first | done | rfl | (simp only [List.length_drop, List.length_take]; rfl)) ?_; (with_reducible refine (sheerlegref05_Text.calls k1 x4_1 t141 _ A3.out).mono ?_); rintro e w6 ⟨rfl, hb⟩; refine ⟨_, rfl, ?_⟩; have n0_ := Aside0.mk (below_step (by repeat (first | (with_reducible first | exact HB.out | apply below_alloc | apply pw_below_drewN | apply below_drew1) | exact HB.out)) hb); clear HB; have HB := n0_; clear n0_; (try clear hb); (try clear hb2); (try clear hk); (try clear hi)))
          go_roundg k1
          case measure => have := HK1.out; omega
          case rel => exact ⟨(wrap64 (x4_1 + 1)), (by first | rfl | (simp; done) | (simp [*]; done)), H', ⟨by have := HK1.out; omega⟩, ⟨by repeat (first | (with_reducible first | exact HB.out | apply below_alloc | apply pw_below_drewN | apply below_drew1) | exact HB.out)⟩⟩
      · rw [if_neg c2] at H
        have c2b0 : decide (x4_1 ≤ 8) = false := decide_eq_false c2
        clear c2
        simp only [Option.some.injEq, Prod.mk.injEq] at H
        obtain ⟨rfl, rfl⟩ := H
        go_wp2
        go_ret2
        exact ⟨by first | rfl | (simp [errW_none, errW_some] <;> rfl) | (simp [*, errW_none, errW_some] <;> rfl), by repeat (first | (with_reducible first | exact HB.out | apply below_alloc | apply pw_below_drewN | apply below_drew1) | exact HB.out)⟩

/-! ### sheerlegref05_Params: function 17 -/
def sheerlegref05_Params.f (a0 : Int) : Option (Int) := (sheerlegref05_Is.f a0).bind fun t142 => (if t142 = true then (some (wrap64 (Int.tdiv a0 2))) else (some 0))
set_option maxHeartbeats 8000000 in
set_option maxRecDepth 100000 in
theorem sheerlegref05_Params.calls (a0 : Int) (r : Int) (w : World) (h : sheerlegref05_Params.f a0 = some r) :
    Calls Try.prog 17 #[.int .i64 a0] w fun e w' => e = .returned (.int .i64 r) ∧ Drawn0 w w' := by
  have H : ((sheerlegref05_Is.f a0).bind fun t142 => (if t142 = true then (some (wrap64 (Int.tdiv a0 2))) else (some 0))) = some r := h
  clear h
  replace H := Option.bind_eq_some_iff.mp H
  obtain ⟨t142, A20, H⟩ := H
  replace H : (if t142 = true then (some (wrap64 (Int.tdiv a0 2))) else (some 0)) = some r := H
  have A2 := Aside0.mk A20
  clear A20
  by_cases c3 : t142 = true
  · subst c3
    have H1 : (some (wrap64 (Int.tdiv a0 2))) = some r := by rw [if_pos rfl] at H; exact H
    clear H
    have H := H1
    clear H1
    obtain rfl := Option.some.inj H
    go_enter Try.func17, Try.ntmps17
    go_wp2_with (first | ((with_reducible refine gate_callee (f := 15) rfl ?_); refine goesL_ (some 4) rfl rfl Try.func15 (by kernel_rfl) rfl #[.int .i64 a0] rfl (by (try simp only [List.map_toArray, List.map_cons, List.map_nil]); first | done | rfl | (simp only [List.length_drop, List.length_take]; rfl)) ?_; (with_reducible refine (sheerlegref05_Is.calls a0 true _ A2.out).mono ?_); rintro e w' ⟨rfl, ⟨nd, rfl⟩⟩; refine ⟨_, rfl, ?_⟩))
    go_ret
    exact ⟨by first | rfl | (simp; done) | (simp [*]; done), by repeat (first | exact Drawn0.refl _ | apply Drawn0.step)⟩
  · replace c3 := Bool.eq_false_iff.mpr c3
    subst c3
    have H1 : (some 0) = some r := by rw [if_neg (show ¬ (false = true) by decide)] at H; exact H
    clear H
    have H := H1
    clear H1
    obtain rfl := Option.some.inj H
    go_enter Try.func17, Try.ntmps17
    go_wp2_with (first | ((with_reducible refine gate_callee (f := 15) rfl ?_); refine goesL_ (some 4) rfl rfl Try.func15 (by kernel_rfl) rfl #[.int .i64 a0] rfl (by (try simp only [List.map_toArray, List.map_cons, List.map_nil]); first | done | rfl | (simp only [List.length_drop, List.length_take]; rfl)) ?_; (with_reducible refine (sheerlegref05_Is.calls a0 false _ A2.out).mono ?_); rintro e w' ⟨rfl, ⟨nd, rfl⟩⟩; refine ⟨_, rfl, ?_⟩))
    go_ret
    exact ⟨by first | rfl | (simp; done) | (simp [*]; done), by repeat (first | exact Drawn0.refl _ | apply Drawn0.step)⟩

/-! ### sheerlegref05_Answers: function 19 -/
def sheerlegref05_Answers.f (a0 : Int) : Option (Bool) := (sheerlegref05_Is.f a0).bind fun t143 => (if t143 = true then (some ((Int.tmod a0 2) == 1)) else (some false))
set_option maxHeartbeats 8000000 in
set_option maxRecDepth 100000 in
theorem sheerlegref05_Answers.calls (a0 : Int) (r : Bool) (w : World) (h : sheerlegref05_Answers.f a0 = some r) :
    Calls Try.prog 19 #[.int .i64 a0] w fun e w' => e = .returned (.bool r) ∧ Drawn0 w w' := by
  have H : ((sheerlegref05_Is.f a0).bind fun t143 => (if t143 = true then (some ((Int.tmod a0 2) == 1)) else (some false))) = some r := h
  clear h
  replace H := Option.bind_eq_some_iff.mp H
  obtain ⟨t143, A20, H⟩ := H
  replace H : (if t143 = true then (some ((Int.tmod a0 2) == 1)) else (some false)) = some r := H
  have A2 := Aside0.mk A20
  clear A20
  by_cases c3 : t143 = true
  · subst c3
    have H1 : (some ((Int.tmod a0 2) == 1)) = some r := by rw [if_pos rfl] at H; exact H
    clear H
    have H := H1
    clear H1
    obtain rfl := Option.some.inj H
    go_enter Try.func19, Try.ntmps19
    go_wp2_with (first | ((with_reducible refine gate_callee (f := 15) rfl ?_); refine goesL_ (some 4) rfl rfl Try.func15 (by kernel_rfl) rfl #[.int .i64 a0] rfl (by (try simp only [List.map_toArray, List.map_cons, List.map_nil]); first | done | rfl | (simp only [List.length_drop, List.length_take]; rfl)) ?_; (with_reducible refine (sheerlegref05_Is.calls a0 true _ A2.out).mono ?_); rintro e w' ⟨rfl, ⟨nd, rfl⟩⟩; refine ⟨_, rfl, ?_⟩))
    go_ret
    exact ⟨by first | rfl | (simp; done) | (simp [*]; done), by repeat (first | exact Drawn0.refl _ | apply Drawn0.step)⟩
  · replace c3 := Bool.eq_false_iff.mpr c3
    subst c3
    have H1 : (some false) = some r := by rw [if_neg (show ¬ (false = true) by decide)] at H; exact H
    clear H
    have H := H1
    clear H1
    obtain rfl := Option.some.inj H
    go_enter Try.func19, Try.ntmps19
    go_wp2_with (first | ((with_reducible refine gate_callee (f := 15) rfl ?_); refine goesL_ (some 4) rfl rfl Try.func15 (by kernel_rfl) rfl #[.int .i64 a0] rfl (by (try simp only [List.map_toArray, List.map_cons, List.map_nil]); first | done | rfl | (simp only [List.length_drop, List.length_take]; rfl)) ?_; (with_reducible refine (sheerlegref05_Is.calls a0 false _ A2.out).mono ?_); rintro e w' ⟨rfl, ⟨nd, rfl⟩⟩; refine ⟨_, rfl, ?_⟩))
    go_ret
    exact ⟨by first | rfl | (simp; done) | (simp [*]; done), by repeat (first | exact Drawn0.refl _ | apply Drawn0.step)⟩

/-! ### sheerlegref05_Later: function 21 -/
def sheerlegref05_Later.f (a0 : Int) : Option (Bool) := if a0 = 0 then (some true) else (some (a0 == 2))
set_option maxHeartbeats 8000000 in
set_option maxRecDepth 100000 in
theorem sheerlegref05_Later.calls (a0 : Int) (r : Bool) (w : World) (h : sheerlegref05_Later.f a0 = some r) :
    Calls Try.prog 21 #[.int .i64 a0] w fun e w' => e = .returned (.bool r) ∧ Drawn0 w w' := by
  have H : (if a0 = 0 then (some true) else (some (a0 == 2))) = some r := h
  clear h
  by_cases c2 : a0 = 0
  · rw [if_pos c2] at H
    have c2b0 : (a0 == 0) = true := beq_iff_eq.mpr c2
    have c2b1 : (a0 != 0) = false := bne_eq_false_iff_eq.mpr c2
    clear c2
    obtain rfl := Option.some.inj H
    go_enter Try.func21, Try.ntmps21
    go_wp2
    go_ret
    exact ⟨by first | rfl | (simp; done) | (simp [*]; done), by repeat (first | exact Drawn0.refl _ | apply Drawn0.step)⟩
  · rw [if_neg c2] at H
    have c2b0 : (a0 == 0) = false := beq_eq_false_iff_ne.mpr c2
    have c2b1 : (a0 != 0) = true := bne_iff_ne.mpr c2
    obtain rfl := Option.some.inj H
    go_enter Try.func21, Try.ntmps21
    go_wp2
    go_ret
    exact ⟨by first | rfl | (simp; done) | (simp [*]; done), by repeat (first | exact Drawn0.refl _ | apply Drawn0.step)⟩

/-! ### sheerleglaw05_SigTells: function 3 -/
def sheerleglaw05_SigTells.j0 : Nat → Int → Bool → Option (Bool)
  | 0, _, _ => none
  | k + 1, x0, x82 => if x82 = true then (some false) else ((sig_Is.f x0).bind fun t157 => ((sheerlegref05_Is.f x0).bind fun t158 => (if (t157 == t158) = true then ((sig_Params.f x0).bind fun t159 => ((sheerlegref05_Params.f x0).bind fun t160 => (if t159 = t160 then ((sig_Answers.f x0).bind fun t161 => ((sheerlegref05_Answers.f x0).bind fun t162 => (if (t161 == t162) = true then ((sig_Later.f x0).bind fun t163 => ((sheerlegref05_Later.f x0).bind fun t164 => (if (t163 == t164) = true then ((sig_Text.f x0).bind fun t165 => ((sheerlegref05_Text.f k x0).bind fun t166 => (if t165.toList = t166.toList then ((sheerleglaw05_known.f k).bind fun t167 => (some t167)) else (some false)))) else (some false)))) else (some false)))) else (some false)))) else (some false))))
def sheerleglaw05_SigTells.f (k : Nat) (a0 : Int) (a1 : Bool) (a2 : ByteArray) : Option (Bool) := if (a2.size : Int) > 50 then ((sheerleglaw05_known.f k).bind fun t144 => (some t144)) else ((sig_Of.f k a0 a1).bind fun bt145 => ((sheerlegref05_Of.f k a0 a1).bind fun bt147 => ((sig_Class.f a0).bind fun bt149 => ((sheerlegref05_Class.f a0).bind fun bt151 => ((sig_Parse.f k a2).bind fun bt153 => ((sheerlegref05_Parse.f k a2).bind fun bt155 => (if bt145.1 = bt147.1 then (if (bt145.2 != bt147.2) = true then (sheerleglaw05_SigTells.j0 k a0 true) else (if bt149.1 = bt151.1 then (if (bt149.2 != bt151.2) = true then (sheerleglaw05_SigTells.j0 k a0 true) else (if bt153.1 = bt155.1 then (sheerleglaw05_SigTells.j0 k a0 (bt153.2 != bt155.2)) else (sheerleglaw05_SigTells.j0 k a0 true))) else (sheerleglaw05_SigTells.j0 k a0 true))) else (sheerleglaw05_SigTells.j0 k a0 true))))))))
theorem sheerleglaw05_SigTells.mono_l : ∀ k, (∀ y0 y1, LeO (sheerleglaw05_SigTells.j0 k y0 y1) (sheerleglaw05_SigTells.j0 (k + 1) y0 y1))
  | 0 => fun _ _ r h => by simp [sheerleglaw05_SigTells.j0] at h
  | k + 1 => by
    have ih0 := sheerleglaw05_SigTells.mono_l k
    · intro y0 y1
      unfold sheerleglaw05_SigTells.j0
      repeat' first
      | (with_reducible exact ih0 _ _)
      | (with_reducible exact sheerleglaw05_known.mono _)
      | (with_reducible exact sheerlegref05_Of.mono _ _ _)
      | (with_reducible exact sheerlegref05_Parse.mono _ _)
      | (with_reducible exact sheerlegref05_Text.mono _ _)
      | (with_reducible exact sig_Of.mono _ _ _)
      | (with_reducible exact sig_Parse.mono _ _)
      | (with_reducible exact LeO.refl _)
      | (with_reducible exact LeO.none _)
      | (with_reducible refine LeO.ite ?_ ?_)
      | (with_reducible refine LeO.bind ?_ (fun _ => ?_))
      | exact ih0 _ _
      | exact sheerleglaw05_known.mono _
      | exact sheerlegref05_Of.mono _ _ _
      | exact sheerlegref05_Parse.mono _ _
      | exact sheerlegref05_Text.mono _ _
      | exact sig_Of.mono _ _ _
      | exact sig_Parse.mono _ _
      | exact LeO.none _
      | refine LeO.ite ?_ ?_
      | refine LeO.bind ?_ (fun _ => ?_)
theorem sheerleglaw05_SigTells.mono : ∀ a0 a1 a2 k, LeO (sheerleglaw05_SigTells.f k a0 a1 a2) (sheerleglaw05_SigTells.f (k + 1) a0 a1 a2) := by
  intro a0 a1 a2 k
  have ih0 := sheerleglaw05_SigTells.mono_l k
  unfold sheerleglaw05_SigTells.f
  repeat' first
      | (with_reducible exact ih0 _ _)
      | (with_reducible exact sheerleglaw05_known.mono _)
      | (with_reducible exact sheerlegref05_Of.mono _ _ _)
      | (with_reducible exact sheerlegref05_Parse.mono _ _)
      | (with_reducible exact sheerlegref05_Text.mono _ _)
      | (with_reducible exact sig_Of.mono _ _ _)
      | (with_reducible exact sig_Parse.mono _ _)
      | (with_reducible exact LeO.refl _)
      | (with_reducible exact LeO.none _)
      | (with_reducible refine LeO.ite ?_ ?_)
      | (with_reducible refine LeO.bind ?_ (fun _ => ?_))
      | exact ih0 _ _
      | exact sheerleglaw05_known.mono _
      | exact sheerlegref05_Of.mono _ _ _
      | exact sheerlegref05_Parse.mono _ _
      | exact sheerlegref05_Text.mono _ _
      | exact sig_Of.mono _ _ _
      | exact sig_Parse.mono _ _
      | exact LeO.none _
      | refine LeO.ite ?_ ?_
      | refine LeO.bind ?_ (fun _ => ?_)
set_option maxHeartbeats 8000000 in
set_option maxRecDepth 100000 in
theorem sheerleglaw05_SigTells.calls (k : Nat) (a0 : Int) (a1 : Bool) (a2 : ByteArray) (r : Bool) (w : World) (h : sheerleglaw05_SigTells.f k a0 a1 a2 = some r) :
    Calls Try.prog 3 #[.int .i64 a0, .bool a1, .string a2] w fun e w' => e = .returned (.bool r) ∧ Below w.heap.size w w' := by
  have HB := Aside0.mk (Below.refl w.heap.size w)
  have H : (if (a2.size : Int) > 50 then ((sheerleglaw05_known.f k).bind fun t144 => (some t144)) else ((sig_Of.f k a0 a1).bind fun bt145 => ((sheerlegref05_Of.f k a0 a1).bind fun bt147 => ((sig_Class.f a0).bind fun bt149 => ((sheerlegref05_Class.f a0).bind fun bt151 => ((sig_Parse.f k a2).bind fun bt153 => ((sheerlegref05_Parse.f k a2).bind fun bt155 => (if bt145.1 = bt147.1 then (if (bt145.2 != bt147.2) = true then (sheerleglaw05_SigTells.j0 k a0 true) else (if bt149.1 = bt151.1 then (if (bt149.2 != bt151.2) = true then (sheerleglaw05_SigTells.j0 k a0 true) else (if bt153.1 = bt155.1 then (sheerleglaw05_SigTells.j0 k a0 (bt153.2 != bt155.2)) else (sheerleglaw05_SigTells.j0 k a0 true))) else (sheerleglaw05_SigTells.j0 k a0 true))) else (sheerleglaw05_SigTells.j0 k a0 true))))))))) = some r := h
  clear h
  by_cases c4 : (a2.size : Int) > 50
  · rw [if_pos c4] at H
    have c4b0 : decide (50 < (a2.size : Int)) = true := decide_eq_true c4
    have c4b1 : decide (50 < a2.size) = true := decide_eq_true (by omega)
    clear c4
    replace H := Option.bind_eq_some_iff.mp H
    obtain ⟨t144, A50, H⟩ := H
    replace H : (some t144) = some r := H
    have A5 := Aside0.mk A50
    clear A50
    obtain rfl := Option.some.inj H
    go_enter Try.func3, Try.ntmps3
    go_wp2_with (first | ((with_reducible refine gate_callee (f := 7) rfl ?_); refine goesL_ (some 22) rfl rfl Try.func7 (by kernel_rfl) rfl #[] rfl (by (try simp only [List.map_toArray, List.map_cons, List.map_nil]); first | done | rfl | (simp only [List.length_drop, List.length_take]; rfl)) ?_; (with_reducible refine (sheerleglaw05_known.calls k  t144 _ A5.out).mono ?_); rintro e w6 ⟨rfl, hb⟩; refine ⟨_, rfl, ?_⟩; have n0_ := Aside0.mk (below_step (by repeat (first | (with_reducible first | exact HB.out | apply below_alloc | apply pw_below_drewN | apply below_drew1) | exact HB.out)) hb); clear HB; have HB := n0_; clear n0_; (try clear hb); (try clear hb2); (try clear hk); (try clear hi)))
    go_ret
    exact ⟨by first | rfl | (simp [errW_none, errW_some] <;> rfl) | (simp [*, errW_none, errW_some] <;> rfl), by repeat (first | (with_reducible first | exact HB.out | apply below_alloc | apply pw_below_drewN | apply below_drew1) | exact HB.out)⟩
  · rw [if_neg c4] at H
    have c4b0 : decide (50 < (a2.size : Int)) = false := decide_eq_false c4
    have c4b1 : decide (50 < a2.size) = false := decide_eq_false (by omega)
    clear c4
    replace H := Option.bind_eq_some_iff.mp H
    obtain ⟨⟨t145, t146⟩, A70, H⟩ := H
    replace H : ((sheerlegref05_Of.f k a0 a1).bind fun bt147 => ((sig_Class.f a0).bind fun bt149 => ((sheerlegref05_Class.f a0).bind fun bt151 => ((sig_Parse.f k a2).bind fun bt153 => ((sheerlegref05_Parse.f k a2).bind fun bt155 => (if t145 = bt147.1 then (if (t146 != bt147.2) = true then (sheerleglaw05_SigTells.j0 k a0 true) else (if bt149.1 = bt151.1 then (if (bt149.2 != bt151.2) = true then (sheerleglaw05_SigTells.j0 k a0 true) else (if bt153.1 = bt155.1 then (sheerleglaw05_SigTells.j0 k a0 (bt153.2 != bt155.2)) else (sheerleglaw05_SigTells.j0 k a0 true))) else (sheerleglaw05_SigTells.j0 k a0 true))) else (sheerleglaw05_SigTells.j0 k a0 true))))))) = some r := H
    have A7 := Aside0.mk A70
    clear A70
    replace H := Option.bind_eq_some_iff.mp H
    obtain ⟨⟨t147, t148⟩, A80, H⟩ := H
    replace H : ((sig_Class.f a0).bind fun bt149 => ((sheerlegref05_Class.f a0).bind fun bt151 => ((sig_Parse.f k a2).bind fun bt153 => ((sheerlegref05_Parse.f k a2).bind fun bt155 => (if t145 = t147 then (if (t146 != t148) = true then (sheerleglaw05_SigTells.j0 k a0 true) else (if bt149.1 = bt151.1 then (if (bt149.2 != bt151.2) = true then (sheerleglaw05_SigTells.j0 k a0 true) else (if bt153.1 = bt155.1 then (sheerleglaw05_SigTells.j0 k a0 (bt153.2 != bt155.2)) else (sheerleglaw05_SigTells.j0 k a0 true))) else (sheerleglaw05_SigTells.j0 k a0 true))) else (sheerleglaw05_SigTells.j0 k a0 true)))))) = some r := H
    have A8 := Aside0.mk A80
    clear A80
    replace H := Option.bind_eq_some_iff.mp H
    obtain ⟨⟨t149, t150⟩, A90, H⟩ := H
    replace H : ((sheerlegref05_Class.f a0).bind fun bt151 => ((sig_Parse.f k a2).bind fun bt153 => ((sheerlegref05_Parse.f k a2).bind fun bt155 => (if t145 = t147 then (if (t146 != t148) = true then (sheerleglaw05_SigTells.j0 k a0 true) else (if t149 = bt151.1 then (if (t150 != bt151.2) = true then (sheerleglaw05_SigTells.j0 k a0 true) else (if bt153.1 = bt155.1 then (sheerleglaw05_SigTells.j0 k a0 (bt153.2 != bt155.2)) else (sheerleglaw05_SigTells.j0 k a0 true))) else (sheerleglaw05_SigTells.j0 k a0 true))) else (sheerleglaw05_SigTells.j0 k a0 true))))) = some r := H
    have A9 := Aside0.mk A90
    clear A90
    replace H := Option.bind_eq_some_iff.mp H
    obtain ⟨⟨t151, t152⟩, A100, H⟩ := H
    replace H : ((sig_Parse.f k a2).bind fun bt153 => ((sheerlegref05_Parse.f k a2).bind fun bt155 => (if t145 = t147 then (if (t146 != t148) = true then (sheerleglaw05_SigTells.j0 k a0 true) else (if t149 = t151 then (if (t150 != t152) = true then (sheerleglaw05_SigTells.j0 k a0 true) else (if bt153.1 = bt155.1 then (sheerleglaw05_SigTells.j0 k a0 (bt153.2 != bt155.2)) else (sheerleglaw05_SigTells.j0 k a0 true))) else (sheerleglaw05_SigTells.j0 k a0 true))) else (sheerleglaw05_SigTells.j0 k a0 true)))) = some r := H
    have A10 := Aside0.mk A100
    clear A100
    replace H := Option.bind_eq_some_iff.mp H
    obtain ⟨⟨t153, t154⟩, A110, H⟩ := H
    replace H : ((sheerlegref05_Parse.f k a2).bind fun bt155 => (if t145 = t147 then (if (t146 != t148) = true then (sheerleglaw05_SigTells.j0 k a0 true) else (if t149 = t151 then (if (t150 != t152) = true then (sheerleglaw05_SigTells.j0 k a0 true) else (if t153 = bt155.1 then (sheerleglaw05_SigTells.j0 k a0 (t154 != bt155.2)) else (sheerleglaw05_SigTells.j0 k a0 true))) else (sheerleglaw05_SigTells.j0 k a0 true))) else (sheerleglaw05_SigTells.j0 k a0 true))) = some r := H
    have A11 := Aside0.mk A110
    clear A110
    replace H := Option.bind_eq_some_iff.mp H
    obtain ⟨⟨t155, t156⟩, A120, H⟩ := H
    replace H : (if t145 = t147 then (if (t146 != t148) = true then (sheerleglaw05_SigTells.j0 k a0 true) else (if t149 = t151 then (if (t150 != t152) = true then (sheerleglaw05_SigTells.j0 k a0 true) else (if t153 = t155 then (sheerleglaw05_SigTells.j0 k a0 (t154 != t156)) else (sheerleglaw05_SigTells.j0 k a0 true))) else (sheerleglaw05_SigTells.j0 k a0 true))) else (sheerleglaw05_SigTells.j0 k a0 true)) = some r := H
    have A12 := Aside0.mk A120
    clear A120
    have HC13 := Aside0.mk H
    clear H
    go_enter Try.func3, Try.ntmps3
    go_upto_region 9 with (first | ((with_reducible refine gate_callee (f := 8) rfl ?_); refine goesL_ (some 26) rfl rfl Try.func8 (by kernel_rfl) rfl #[.int .i64 a0, .bool a1] rfl (by (try simp only [List.map_toArray, List.map_cons, List.map_nil]); first | done | rfl | (simp only [List.length_drop, List.length_take]; rfl)) ?_; (with_reducible refine (sig_Of.calls k a0 a1 t145 t146 _ A7.out).mono ?_); rintro e w' ⟨rfl, ⟨nd, rfl⟩⟩; refine ⟨_, rfl, ?_⟩) | ((with_reducible refine gate_callee (f := 9) rfl ?_); refine goesL_ (some 32) rfl rfl Try.func9 (by kernel_rfl) rfl #[.int .i64 a0, .bool a1] rfl (by (try simp only [List.map_toArray, List.map_cons, List.map_nil]); first | done | rfl | (simp only [List.length_drop, List.length_take]; rfl)) ?_; (with_reducible refine (sheerlegref05_Of.calls k a0 a1 t147 t148 _ A8.out).mono ?_); rintro e w' ⟨rfl, ⟨nd, rfl⟩⟩; refine ⟨_, rfl, ?_⟩) | ((with_reducible refine gate_callee (f := 10) rfl ?_); refine goesL_ (some 37) rfl rfl Try.func10 (by kernel_rfl) rfl #[.int .i64 a0] rfl (by (try simp only [List.map_toArray, List.map_cons, List.map_nil]); first | done | rfl | (simp only [List.length_drop, List.length_take]; rfl)) ?_; (with_reducible refine (sig_Class.calls a0 t149 t150 _ A9.out).mono ?_); rintro e w' ⟨rfl, ⟨nd, rfl⟩⟩; refine ⟨_, rfl, ?_⟩) | ((with_reducible refine gate_callee (f := 11) rfl ?_); refine goesL_ (some 42) rfl rfl Try.func11 (by kernel_rfl) rfl #[.int .i64 a0] rfl (by (try simp only [List.map_toArray, List.map_cons, List.map_nil]); first | done | rfl | (simp only [List.length_drop, List.length_take]; rfl)) ?_; (with_reducible refine (sheerlegref05_Class.calls a0 t151 t152 _ A10.out).mono ?_); rintro e w' ⟨rfl, ⟨nd, rfl⟩⟩; refine ⟨_, rfl, ?_⟩) | ((with_reducible refine gate_callee (f := 12) rfl ?_); refine goesL_ (some 47) rfl rfl Try.func12 (by kernel_rfl) rfl #[.string a2] rfl (by (try simp only [List.map_toArray, List.map_cons, List.map_nil]); first | done | rfl | (simp only [List.length_drop, List.length_take]; rfl)) ?_; (with_reducible refine (sig_Parse.calls k a2 t153 t154 _ A11.out).mono ?_); rintro e w14 ⟨rfl, hb⟩; refine ⟨_, rfl, ?_⟩; have n0_ := Aside0.mk (below_step (by repeat (first | (with_reducible first | exact HB.out | apply below_alloc | apply pw_below_drewN | apply below_drew1) | exact HB.out)) hb); clear HB; have HB := n0_; clear n0_; (try clear hb); (try clear hb2); (try clear hk); (try clear hi)) | ((with_reducible refine gate_callee (f := 13) rfl ?_); refine goesL_ (some 52) rfl rfl Try.func13 (by kernel_rfl) rfl #[.string a2] rfl (by (try simp only [List.map_toArray, List.map_cons, List.map_nil]); first | done | rfl | (simp only [List.length_drop, List.length_take]; rfl)) ?_; (with_reducible refine (sheerlegref05_Parse.calls k a2 t155 t156 _ A12.out).mono ?_); rintro e w15 ⟨rfl, hb⟩; refine ⟨_, rfl, ?_⟩; have n0_ := Aside0.mk (below_step (by repeat (first | (with_reducible first | exact HB.out | apply below_alloc | apply pw_below_drewN | apply below_drew1) | exact HB.out)) hb); clear HB; have HB := n0_; clear n0_; (try clear hb); (try clear hb2); (try clear hk); (try clear hi)))
    (try simp only [Act.put, List.setIfInBounds_toArray, List.set_cons_zero, List.set_cons_succ])
    go_cut [82] (fun v82 wc => ∃ (kq : Nat) (x82_12 : Bool), v82 = .bool x82_12 ∧ Aside0 (sheerleglaw05_SigTells.j0 kq a0 x82_12 = some r) ∧ Aside0 (kq ≤ k) ∧ Aside0 (Below w.heap.size w wc))
    case first =>
      have H := HC13.out
      clear HC13
      by_cases c16 : t145 = t147
      · rw [if_pos c16] at H
        have c16b0 : (t145 == t147) = true := beq_iff_eq.mpr c16
        have c16b1 : (t145 != t147) = false := bne_eq_false_iff_eq.mpr c16
        clear c16
        (first | rw [c16b0] | (simp only [i64_w, i32_w]; rw [c16b0]) | skip)
        by_cases c17 : (t146 != t148) = true
        · rw [if_pos c17] at H
          have c17b0 : (t146 != t148) = true := c17
          (try (have c17b1 : decide (t146 = t148) = false := by simpa using c17))
          (try (have c17b2 : (t146 == t148) = false := by simpa using c17))
          (try (have c17b3 : ¬ (t146 = t148) := by simpa using c17))
          clear c17
          have H' := Aside0.mk H
          clear H
          go_wp2
          go_meet
          case rel => exact ⟨_, (true), (by first | rfl | (simp; done) | (simp [*]; done)), H', ⟨by first | omega | exact Nat.le_refl _⟩, ⟨by repeat (first | (with_reducible first | exact HB.out | apply below_alloc | apply pw_below_drewN | apply below_drew1) | exact HB.out)⟩⟩
        · rw [if_neg c17] at H
          have c17b0 : (t146 != t148) = false := by simpa using c17
          (try (have c17b1 : decide (t146 = t148) = true := by simpa using c17))
          (try (have c17b2 : (t146 == t148) = true := by simpa using c17))
          clear c17
          by_cases c18 : t149 = t151
          · rw [if_pos c18] at H
            have c18b0 : (t149 == t151) = true := beq_iff_eq.mpr c18
            have c18b1 : (t149 != t151) = false := bne_eq_false_iff_eq.mpr c18
            clear c18
            by_cases c19 : (t150 != t152) = true
            · rw [if_pos c19] at H
              have c19b0 : (t150 != t152) = true := c19
              (try (have c19b1 : decide (t150 = t152) = false := by simpa using c19))
              (try (have c19b2 : (t150 == t152) = false := by simpa using c19))
              (try (have c19b3 : ¬ (t150 = t152) := by simpa using c19))
              clear c19
              have H' := Aside0.mk H
              clear H
              go_wp2
              go_meet
              case rel => exact ⟨_, (true), (by first | rfl | (simp; done) | (simp [*]; done)), H', ⟨by first | omega | exact Nat.le_refl _⟩, ⟨by repeat (first | (with_reducible first | exact HB.out | apply below_alloc | apply pw_below_drewN | apply below_drew1) | exact HB.out)⟩⟩
            · rw [if_neg c19] at H
              have c19b0 : (t150 != t152) = false := by simpa using c19
              (try (have c19b1 : decide (t150 = t152) = true := by simpa using c19))
              (try (have c19b2 : (t150 == t152) = true := by simpa using c19))
              clear c19
              by_cases c20 : t153 = t155
              · rw [if_pos c20] at H
                have c20b0 : (t153 == t155) = true := beq_iff_eq.mpr c20
                have c20b1 : (t153 != t155) = false := bne_eq_false_iff_eq.mpr c20
                clear c20
                have H' := Aside0.mk H
                clear H
                go_wp2
                go_meet
                case rel => exact ⟨_, ((t154 != t156)), (by first | rfl | (simp; done) | (simp [*]; done)), H', ⟨by first | omega | exact Nat.le_refl _⟩, ⟨by repeat (first | (with_reducible first | exact HB.out | apply below_alloc | apply pw_below_drewN | apply below_drew1) | exact HB.out)⟩⟩
              · rw [if_neg c20] at H
                have c20b0 : (t153 == t155) = false := beq_eq_false_iff_ne.mpr c20
                have c20b1 : (t153 != t155) = true := bne_iff_ne.mpr c20
                have H' := Aside0.mk H
                clear H
                go_wp2
                go_meet
                case rel => exact ⟨_, (true), (by first | rfl | (simp; done) | (simp [*]; done)), H', ⟨by first | omega | exact Nat.le_refl _⟩, ⟨by repeat (first | (with_reducible first | exact HB.out | apply below_alloc | apply pw_below_drewN | apply below_drew1) | exact HB.out)⟩⟩
          · rw [if_neg c18] at H
            have c18b0 : (t149 == t151) = false := beq_eq_false_iff_ne.mpr c18
            have c18b1 : (t149 != t151) = true := bne_iff_ne.mpr c18
            have H' := Aside0.mk H
            clear H
            go_wp2
            go_meet
            case rel => exact ⟨_, (true), (by first | rfl | (simp; done) | (simp [*]; done)), H', ⟨by first | omega | exact Nat.le_refl _⟩, ⟨by repeat (first | (with_reducible first | exact HB.out | apply below_alloc | apply pw_below_drewN | apply below_drew1) | exact HB.out)⟩⟩
      · rw [if_neg c16] at H
        have c16b0 : (t145 == t147) = false := beq_eq_false_iff_ne.mpr c16
        have c16b1 : (t145 != t147) = true := bne_iff_ne.mpr c16
        (first | rw [c16b0] | (simp only [i64_w, i32_w]; rw [c16b0]) | skip)
        have H' := Aside0.mk H
        clear H
        go_wp2
        go_meet
        case rel => exact ⟨_, (true), (by first | rfl | (simp; done) | (simp [*]; done)), H', ⟨by first | omega | exact Nat.le_refl _⟩, ⟨by repeat (first | (with_reducible first | exact HB.out | apply below_alloc | apply pw_below_drewN | apply below_drew1) | exact HB.out)⟩⟩
    case rest =>
      clear HC13
      try clear c1
      try clear c2
      try clear p2
      try clear c3
      try clear c4
      try clear c4b0
      try clear c4b1
      try clear c7
      try clear c8
      try clear c9
      try clear c10
      try clear c11
      try clear c12
      try clear c13
      try clear c16
      try clear c16b0
      try clear c16b1
      try clear c17
      try clear c17b0
      try clear c17b1
      try clear c17b2
      try clear c18
      try clear c18b0
      try clear c18b1
      try clear c19
      try clear c19b0
      try clear c19b1
      try clear c19b2
      try clear c20
      try clear c20b0
      try clear c20b1
      obtain ⟨kq, x82_12, rfl, HA, HJ12, HB⟩ := hcut
      cases kq with
      | zero => exact absurd HA.out (by simp [sheerleglaw05_SigTells.j0])
      | succ kj12 =>
        have H := HA.out
        clear HA
        simp only [sheerleglaw05_SigTells.j0] at H
        by_cases c21 : x82_12 = true
        · subst c21
          have H1 : (some false) = some r := by rw [if_pos rfl] at H; exact H
          clear H
          have H := H1
          clear H1
          obtain rfl := Option.some.inj H
          go_wp2
          go_ret
          exact ⟨by first | rfl | (simp [errW_none, errW_some] <;> rfl) | (simp [*, errW_none, errW_some] <;> rfl), by repeat (first | (with_reducible first | exact HB.out | apply below_alloc | apply pw_below_drewN | apply below_drew1) | exact HB.out)⟩
        · replace c21 := Bool.eq_false_iff.mpr c21
          subst c21
          have H1 : ((sig_Is.f a0).bind fun t157 => ((sheerlegref05_Is.f a0).bind fun t158 => (if (t157 == t158) = true then ((sig_Params.f a0).bind fun t159 => ((sheerlegref05_Params.f a0).bind fun t160 => (if t159 = t160 then ((sig_Answers.f a0).bind fun t161 => ((sheerlegref05_Answers.f a0).bind fun t162 => (if (t161 == t162) = true then ((sig_Later.f a0).bind fun t163 => ((sheerlegref05_Later.f a0).bind fun t164 => (if (t163 == t164) = true then ((sig_Text.f a0).bind fun t165 => ((sheerlegref05_Text.f kj12 a0).bind fun t166 => (if t165.toList = t166.toList then ((sheerleglaw05_known.f kj12).bind fun t167 => (some t167)) else (some false)))) else (some false)))) else (some false)))) else (some false)))) else (some false)))) = some r := by rw [if_neg (show ¬ (false = true) by decide)] at H; exact H
          clear H
          have H := H1
          clear H1
          replace H := Option.bind_eq_some_iff.mp H
          obtain ⟨t157, A220, H⟩ := H
          replace H : ((sheerlegref05_Is.f a0).bind fun t158 => (if (t157 == t158) = true then ((sig_Params.f a0).bind fun t159 => ((sheerlegref05_Params.f a0).bind fun t160 => (if t159 = t160 then ((sig_Answers.f a0).bind fun t161 => ((sheerlegref05_Answers.f a0).bind fun t162 => (if (t161 == t162) = true then ((sig_Later.f a0).bind fun t163 => ((sheerlegref05_Later.f a0).bind fun t164 => (if (t163 == t164) = true then ((sig_Text.f a0).bind fun t165 => ((sheerlegref05_Text.f kj12 a0).bind fun t166 => (if t165.toList = t166.toList then ((sheerleglaw05_known.f kj12).bind fun t167 => (some t167)) else (some false)))) else (some false)))) else (some false)))) else (some false)))) else (some false))) = some r := H
          have A22 := Aside0.mk A220
          clear A220
          replace H := Option.bind_eq_some_iff.mp H
          obtain ⟨t158, A230, H⟩ := H
          replace H : (if (t157 == t158) = true then ((sig_Params.f a0).bind fun t159 => ((sheerlegref05_Params.f a0).bind fun t160 => (if t159 = t160 then ((sig_Answers.f a0).bind fun t161 => ((sheerlegref05_Answers.f a0).bind fun t162 => (if (t161 == t162) = true then ((sig_Later.f a0).bind fun t163 => ((sheerlegref05_Later.f a0).bind fun t164 => (if (t163 == t164) = true then ((sig_Text.f a0).bind fun t165 => ((sheerlegref05_Text.f kj12 a0).bind fun t166 => (if t165.toList = t166.toList then ((sheerleglaw05_known.f kj12).bind fun t167 => (some t167)) else (some false)))) else (some false)))) else (some false)))) else (some false)))) else (some false)) = some r := H
          have A23 := Aside0.mk A230
          clear A230
          by_cases c24 : (t157 == t158) = true
          · rw [if_pos c24] at H
            have c24b0 : (t157 == t158) = true := c24
            (try (have c24b1 : decide (t157 = t158) = true := by simpa using c24))
            (try (have c24b2 : (t157 == t158) = true := by simpa using c24))
            clear c24
            replace H := Option.bind_eq_some_iff.mp H
            obtain ⟨t159, A250, H⟩ := H
            replace H : ((sheerlegref05_Params.f a0).bind fun t160 => (if t159 = t160 then ((sig_Answers.f a0).bind fun t161 => ((sheerlegref05_Answers.f a0).bind fun t162 => (if (t161 == t162) = true then ((sig_Later.f a0).bind fun t163 => ((sheerlegref05_Later.f a0).bind fun t164 => (if (t163 == t164) = true then ((sig_Text.f a0).bind fun t165 => ((sheerlegref05_Text.f kj12 a0).bind fun t166 => (if t165.toList = t166.toList then ((sheerleglaw05_known.f kj12).bind fun t167 => (some t167)) else (some false)))) else (some false)))) else (some false)))) else (some false))) = some r := H
            have A25 := Aside0.mk A250
            clear A250
            replace H := Option.bind_eq_some_iff.mp H
            obtain ⟨t160, A260, H⟩ := H
            replace H : (if t159 = t160 then ((sig_Answers.f a0).bind fun t161 => ((sheerlegref05_Answers.f a0).bind fun t162 => (if (t161 == t162) = true then ((sig_Later.f a0).bind fun t163 => ((sheerlegref05_Later.f a0).bind fun t164 => (if (t163 == t164) = true then ((sig_Text.f a0).bind fun t165 => ((sheerlegref05_Text.f kj12 a0).bind fun t166 => (if t165.toList = t166.toList then ((sheerleglaw05_known.f kj12).bind fun t167 => (some t167)) else (some false)))) else (some false)))) else (some false)))) else (some false)) = some r := H
            have A26 := Aside0.mk A260
            clear A260
            by_cases c27 : t159 = t160
            · rw [if_pos c27] at H
              have c27b0 : (t159 == t160) = true := beq_iff_eq.mpr c27
              have c27b1 : (t159 != t160) = false := bne_eq_false_iff_eq.mpr c27
              clear c27
              replace H := Option.bind_eq_some_iff.mp H
              obtain ⟨t161, A280, H⟩ := H
              replace H : ((sheerlegref05_Answers.f a0).bind fun t162 => (if (t161 == t162) = true then ((sig_Later.f a0).bind fun t163 => ((sheerlegref05_Later.f a0).bind fun t164 => (if (t163 == t164) = true then ((sig_Text.f a0).bind fun t165 => ((sheerlegref05_Text.f kj12 a0).bind fun t166 => (if t165.toList = t166.toList then ((sheerleglaw05_known.f kj12).bind fun t167 => (some t167)) else (some false)))) else (some false)))) else (some false))) = some r := H
              have A28 := Aside0.mk A280
              clear A280
              replace H := Option.bind_eq_some_iff.mp H
              obtain ⟨t162, A290, H⟩ := H
              replace H : (if (t161 == t162) = true then ((sig_Later.f a0).bind fun t163 => ((sheerlegref05_Later.f a0).bind fun t164 => (if (t163 == t164) = true then ((sig_Text.f a0).bind fun t165 => ((sheerlegref05_Text.f kj12 a0).bind fun t166 => (if t165.toList = t166.toList then ((sheerleglaw05_known.f kj12).bind fun t167 => (some t167)) else (some false)))) else (some false)))) else (some false)) = some r := H
              have A29 := Aside0.mk A290
              clear A290
              by_cases c30 : (t161 == t162) = true
              · rw [if_pos c30] at H
                have c30b0 : (t161 == t162) = true := c30
                (try (have c30b1 : decide (t161 = t162) = true := by simpa using c30))
                (try (have c30b2 : (t161 == t162) = true := by simpa using c30))
                clear c30
                replace H := Option.bind_eq_some_iff.mp H
                obtain ⟨t163, A310, H⟩ := H
                replace H : ((sheerlegref05_Later.f a0).bind fun t164 => (if (t163 == t164) = true then ((sig_Text.f a0).bind fun t165 => ((sheerlegref05_Text.f kj12 a0).bind fun t166 => (if t165.toList = t166.toList then ((sheerleglaw05_known.f kj12).bind fun t167 => (some t167)) else (some false)))) else (some false))) = some r := H
                have A31 := Aside0.mk A310
                clear A310
                replace H := Option.bind_eq_some_iff.mp H
                obtain ⟨t164, A320, H⟩ := H
                replace H : (if (t163 == t164) = true then ((sig_Text.f a0).bind fun t165 => ((sheerlegref05_Text.f kj12 a0).bind fun t166 => (if t165.toList = t166.toList then ((sheerleglaw05_known.f kj12).bind fun t167 => (some t167)) else (some false)))) else (some false)) = some r := H
                have A32 := Aside0.mk A320
                clear A320
                by_cases c33 : (t163 == t164) = true
                · rw [if_pos c33] at H
                  have c33b0 : (t163 == t164) = true := c33
                  (try (have c33b1 : decide (t163 = t164) = true := by simpa using c33))
                  (try (have c33b2 : (t163 == t164) = true := by simpa using c33))
                  clear c33
                  replace H := Option.bind_eq_some_iff.mp H
                  obtain ⟨t165, A340, H⟩ := H
                  replace H : ((sheerlegref05_Text.f kj12 a0).bind fun t166 => (if t165.toList = t166.toList then ((sheerleglaw05_known.f kj12).bind fun t167 => (some t167)) else (some false))) = some r := H
                  have A34 := Aside0.mk A340
                  clear A340
                  replace H := Option.bind_eq_some_iff.mp H
                  obtain ⟨t166, A350, H⟩ := H
                  replace H : (if t165.toList = t166.toList then ((sheerleglaw05_known.f kj12).bind fun t167 => (some t167)) else (some false)) = some r := H
                  have A35 := Aside0.mk A350
                  clear A350
                  by_cases c36 : t165.toList = t166.toList
                  · rw [if_pos c36] at H
                    have c36b0 : (t165.toList == t166.toList) = true := beq_iff_eq.mpr c36
                    have c36b1 : (t165.toList != t166.toList) = false := bne_eq_false_iff_eq.mpr c36
                    clear c36
                    replace H := Option.bind_eq_some_iff.mp H
                    obtain ⟨t167, A370, H⟩ := H
                    replace H : (some t167) = some r := H
                    have A37 := Aside0.mk A370
                    clear A370
                    obtain rfl := Option.some.inj H
                    go_wp2_with (first | ((with_reducible refine gate_callee (f := 14) rfl ?_); refine goesL_ (some 84) rfl rfl Try.func14 (by kernel_rfl) rfl #[.int .i64 a0] rfl (by (try simp only [List.map_toArray, List.map_cons, List.map_nil]); first | done | rfl | (simp only [List.length_drop, List.length_take]; rfl)) ?_; (with_reducible refine (sig_Is.calls a0 t157 _ A22.out).mono ?_); rintro e w' ⟨rfl, ⟨nd, rfl⟩⟩; refine ⟨_, rfl, ?_⟩) | ((with_reducible refine gate_callee (f := 15) rfl ?_); refine goesL_ (some 86) rfl rfl Try.func15 (by kernel_rfl) rfl #[.int .i64 a0] rfl (by (try simp only [List.map_toArray, List.map_cons, List.map_nil]); first | done | rfl | (simp only [List.length_drop, List.length_take]; rfl)) ?_; (with_reducible refine (sheerlegref05_Is.calls a0 t158 _ A23.out).mono ?_); rintro e w' ⟨rfl, ⟨nd, rfl⟩⟩; refine ⟨_, rfl, ?_⟩) | (go_at_call 16; (with_reducible refine (sig_Params.calls a0 t159 _ A25.out).mono ?_); rintro e w' ⟨rfl, ⟨nd, rfl⟩⟩) | (go_at_call 17; (with_reducible refine (sheerlegref05_Params.calls a0 t160 _ A26.out).mono ?_); rintro e w' ⟨rfl, ⟨nd, rfl⟩⟩) | (go_at_call 18; (with_reducible refine (sig_Answers.calls a0 t161 _ A28.out).mono ?_); rintro e w' ⟨rfl, ⟨nd, rfl⟩⟩) | (go_at_call 19; (with_reducible refine (sheerlegref05_Answers.calls a0 t162 _ A29.out).mono ?_); rintro e w' ⟨rfl, ⟨nd, rfl⟩⟩) | (go_at_call 20; (with_reducible refine (sig_Later.calls a0 t163 _ A31.out).mono ?_); rintro e w' ⟨rfl, ⟨nd, rfl⟩⟩) | (go_at_call 21; (with_reducible refine (sheerlegref05_Later.calls a0 t164 _ A32.out).mono ?_); rintro e w' ⟨rfl, ⟨nd, rfl⟩⟩) | (go_at_call 22; (with_reducible refine (sig_Text.calls a0 t165 _ A34.out).mono ?_); rintro e w38 ⟨rfl, hb⟩; have n0_ := Aside0.mk (below_step (by repeat (first | (with_reducible first | exact HB.out | apply below_alloc | apply pw_below_drewN | apply below_drew1) | exact HB.out)) hb); clear HB; have HB := n0_; clear n0_; (try clear hb); (try clear hb2); (try clear hk); (try clear hi)) | (go_at_call 23; (with_reducible refine (sheerlegref05_Text.calls kj12 a0 t166 _ A35.out).mono ?_); rintro e w39 ⟨rfl, hb⟩; have n0_ := Aside0.mk (below_step (by repeat (first | (with_reducible first | exact HB.out | apply below_alloc | apply pw_below_drewN | apply below_drew1) | exact HB.out)) hb); clear HB; have HB := n0_; clear n0_; (try clear hb); (try clear hb2); (try clear hk); (try clear hi)) | (go_at_call 7; (with_reducible refine (sheerleglaw05_known.calls kj12  t167 _ A37.out).mono ?_); rintro e w40 ⟨rfl, hb⟩; have n0_ := Aside0.mk (below_step (by repeat (first | (with_reducible first | exact HB.out | apply below_alloc | apply pw_below_drewN | apply below_drew1) | exact HB.out)) hb); clear HB; have HB := n0_; clear n0_; (try clear hb); (try clear hb2); (try clear hk); (try clear hi)))
                    go_ret
                    exact ⟨by first | rfl | (simp [errW_none, errW_some] <;> rfl) | (simp [*, errW_none, errW_some] <;> rfl), by repeat (first | (with_reducible first | exact HB.out | apply below_alloc | apply pw_below_drewN | apply below_drew1) | exact HB.out)⟩
                  · rw [if_neg c36] at H
                    have c36b0 : (t165.toList == t166.toList) = false := beq_eq_false_iff_ne.mpr c36
                    have c36b1 : (t165.toList != t166.toList) = true := bne_iff_ne.mpr c36
                    obtain rfl := Option.some.inj H
                    go_wp2_with (first | ((with_reducible refine gate_callee (f := 14) rfl ?_); refine goesL_ (some 84) rfl rfl Try.func14 (by kernel_rfl) rfl #[.int .i64 a0] rfl (by (try simp only [List.map_toArray, List.map_cons, List.map_nil]); first | done | rfl | (simp only [List.length_drop, List.length_take]; rfl)) ?_; (with_reducible refine (sig_Is.calls a0 t157 _ A22.out).mono ?_); rintro e w' ⟨rfl, ⟨nd, rfl⟩⟩; refine ⟨_, rfl, ?_⟩) | ((with_reducible refine gate_callee (f := 15) rfl ?_); refine goesL_ (some 86) rfl rfl Try.func15 (by kernel_rfl) rfl #[.int .i64 a0] rfl (by (try simp only [List.map_toArray, List.map_cons, List.map_nil]); first | done | rfl | (simp only [List.length_drop, List.length_take]; rfl)) ?_; (with_reducible refine (sheerlegref05_Is.calls a0 t158 _ A23.out).mono ?_); rintro e w' ⟨rfl, ⟨nd, rfl⟩⟩; refine ⟨_, rfl, ?_⟩) | (go_at_call 16; (with_reducible refine (sig_Params.calls a0 t159 _ A25.out).mono ?_); rintro e w' ⟨rfl, ⟨nd, rfl⟩⟩) | (go_at_call 17; (with_reducible refine (sheerlegref05_Params.calls a0 t160 _ A26.out).mono ?_); rintro e w' ⟨rfl, ⟨nd, rfl⟩⟩) | (go_at_call 18; (with_reducible refine (sig_Answers.calls a0 t161 _ A28.out).mono ?_); rintro e w' ⟨rfl, ⟨nd, rfl⟩⟩) | (go_at_call 19; (with_reducible refine (sheerlegref05_Answers.calls a0 t162 _ A29.out).mono ?_); rintro e w' ⟨rfl, ⟨nd, rfl⟩⟩) | (go_at_call 20; (with_reducible refine (sig_Later.calls a0 t163 _ A31.out).mono ?_); rintro e w' ⟨rfl, ⟨nd, rfl⟩⟩) | (go_at_call 21; (with_reducible refine (sheerlegref05_Later.calls a0 t164 _ A32.out).mono ?_); rintro e w' ⟨rfl, ⟨nd, rfl⟩⟩) | (go_at_call 22; (with_reducible refine (sig_Text.calls a0 t165 _ A34.out).mono ?_); rintro e w41 ⟨rfl, hb⟩; have n0_ := Aside0.mk (below_step (by repeat (first | (with_reducible first | exact HB.out | apply below_alloc | apply pw_below_drewN | apply below_drew1) | exact HB.out)) hb); clear HB; have HB := n0_; clear n0_; (try clear hb); (try clear hb2); (try clear hk); (try clear hi)) | (go_at_call 23; (with_reducible refine (sheerlegref05_Text.calls kj12 a0 t166 _ A35.out).mono ?_); rintro e w42 ⟨rfl, hb⟩; have n0_ := Aside0.mk (below_step (by repeat (first | (with_reducible first | exact HB.out | apply below_alloc | apply pw_below_drewN | apply below_drew1) | exact HB.out)) hb); clear HB; have HB := n0_; clear n0_; (try clear hb); (try clear hb2); (try clear hk); (try clear hi)))
                    go_ret
                    exact ⟨by first | rfl | (simp [errW_none, errW_some] <;> rfl) | (simp [*, errW_none, errW_some] <;> rfl), by repeat (first | (with_reducible first | exact HB.out | apply below_alloc | apply pw_below_drewN | apply below_drew1) | exact HB.out)⟩
                · rw [if_neg c33] at H
                  have c33b0 : (t163 == t164) = false := by simpa using c33
                  (try (have c33b1 : decide (t163 = t164) = false := by simpa using c33))
                  (try (have c33b2 : (t163 == t164) = false := by simpa using c33))
                  (try (have c33b3 : ¬ (t163 = t164) := by simpa using c33))
                  clear c33
                  obtain rfl := Option.some.inj H
                  go_wp2_with (first | ((with_reducible refine gate_callee (f := 14) rfl ?_); refine goesL_ (some 84) rfl rfl Try.func14 (by kernel_rfl) rfl #[.int .i64 a0] rfl (by (try simp only [List.map_toArray, List.map_cons, List.map_nil]); first | done | rfl | (simp only [List.length_drop, List.length_take]; rfl)) ?_; (with_reducible refine (sig_Is.calls a0 t157 _ A22.out).mono ?_); rintro e w' ⟨rfl, ⟨nd, rfl⟩⟩; refine ⟨_, rfl, ?_⟩) | ((with_reducible refine gate_callee (f := 15) rfl ?_); refine goesL_ (some 86) rfl rfl Try.func15 (by kernel_rfl) rfl #[.int .i64 a0] rfl (by (try simp only [List.map_toArray, List.map_cons, List.map_nil]); first | done | rfl | (simp only [List.length_drop, List.length_take]; rfl)) ?_; (with_reducible refine (sheerlegref05_Is.calls a0 t158 _ A23.out).mono ?_); rintro e w' ⟨rfl, ⟨nd, rfl⟩⟩; refine ⟨_, rfl, ?_⟩) | (go_at_call 16; (with_reducible refine (sig_Params.calls a0 t159 _ A25.out).mono ?_); rintro e w' ⟨rfl, ⟨nd, rfl⟩⟩) | (go_at_call 17; (with_reducible refine (sheerlegref05_Params.calls a0 t160 _ A26.out).mono ?_); rintro e w' ⟨rfl, ⟨nd, rfl⟩⟩) | (go_at_call 18; (with_reducible refine (sig_Answers.calls a0 t161 _ A28.out).mono ?_); rintro e w' ⟨rfl, ⟨nd, rfl⟩⟩) | (go_at_call 19; (with_reducible refine (sheerlegref05_Answers.calls a0 t162 _ A29.out).mono ?_); rintro e w' ⟨rfl, ⟨nd, rfl⟩⟩) | (go_at_call 20; (with_reducible refine (sig_Later.calls a0 t163 _ A31.out).mono ?_); rintro e w' ⟨rfl, ⟨nd, rfl⟩⟩) | (go_at_call 21; (with_reducible refine (sheerlegref05_Later.calls a0 t164 _ A32.out).mono ?_); rintro e w' ⟨rfl, ⟨nd, rfl⟩⟩))
                  go_ret
                  exact ⟨by first | rfl | (simp [errW_none, errW_some] <;> rfl) | (simp [*, errW_none, errW_some] <;> rfl), by repeat (first | (with_reducible first | exact HB.out | apply below_alloc | apply pw_below_drewN | apply below_drew1) | exact HB.out)⟩
              · rw [if_neg c30] at H
                have c30b0 : (t161 == t162) = false := by simpa using c30
                (try (have c30b1 : decide (t161 = t162) = false := by simpa using c30))
                (try (have c30b2 : (t161 == t162) = false := by simpa using c30))
                (try (have c30b3 : ¬ (t161 = t162) := by simpa using c30))
                clear c30
                obtain rfl := Option.some.inj H
                go_wp2_with (first | ((with_reducible refine gate_callee (f := 14) rfl ?_); refine goesL_ (some 84) rfl rfl Try.func14 (by kernel_rfl) rfl #[.int .i64 a0] rfl (by (try simp only [List.map_toArray, List.map_cons, List.map_nil]); first | done | rfl | (simp only [List.length_drop, List.length_take]; rfl)) ?_; (with_reducible refine (sig_Is.calls a0 t157 _ A22.out).mono ?_); rintro e w' ⟨rfl, ⟨nd, rfl⟩⟩; refine ⟨_, rfl, ?_⟩) | ((with_reducible refine gate_callee (f := 15) rfl ?_); refine goesL_ (some 86) rfl rfl Try.func15 (by kernel_rfl) rfl #[.int .i64 a0] rfl (by (try simp only [List.map_toArray, List.map_cons, List.map_nil]); first | done | rfl | (simp only [List.length_drop, List.length_take]; rfl)) ?_; (with_reducible refine (sheerlegref05_Is.calls a0 t158 _ A23.out).mono ?_); rintro e w' ⟨rfl, ⟨nd, rfl⟩⟩; refine ⟨_, rfl, ?_⟩) | (go_at_call 16; (with_reducible refine (sig_Params.calls a0 t159 _ A25.out).mono ?_); rintro e w' ⟨rfl, ⟨nd, rfl⟩⟩) | (go_at_call 17; (with_reducible refine (sheerlegref05_Params.calls a0 t160 _ A26.out).mono ?_); rintro e w' ⟨rfl, ⟨nd, rfl⟩⟩) | (go_at_call 18; (with_reducible refine (sig_Answers.calls a0 t161 _ A28.out).mono ?_); rintro e w' ⟨rfl, ⟨nd, rfl⟩⟩) | (go_at_call 19; (with_reducible refine (sheerlegref05_Answers.calls a0 t162 _ A29.out).mono ?_); rintro e w' ⟨rfl, ⟨nd, rfl⟩⟩))
                go_ret
                exact ⟨by first | rfl | (simp [errW_none, errW_some] <;> rfl) | (simp [*, errW_none, errW_some] <;> rfl), by repeat (first | (with_reducible first | exact HB.out | apply below_alloc | apply pw_below_drewN | apply below_drew1) | exact HB.out)⟩
            · rw [if_neg c27] at H
              have c27b0 : (t159 == t160) = false := beq_eq_false_iff_ne.mpr c27
              have c27b1 : (t159 != t160) = true := bne_iff_ne.mpr c27
              obtain rfl := Option.some.inj H
              go_wp2_with (first | ((with_reducible refine gate_callee (f := 14) rfl ?_); refine goesL_ (some 84) rfl rfl Try.func14 (by kernel_rfl) rfl #[.int .i64 a0] rfl (by (try simp only [List.map_toArray, List.map_cons, List.map_nil]); first | done | rfl | (simp only [List.length_drop, List.length_take]; rfl)) ?_; (with_reducible refine (sig_Is.calls a0 t157 _ A22.out).mono ?_); rintro e w' ⟨rfl, ⟨nd, rfl⟩⟩; refine ⟨_, rfl, ?_⟩) | ((with_reducible refine gate_callee (f := 15) rfl ?_); refine goesL_ (some 86) rfl rfl Try.func15 (by kernel_rfl) rfl #[.int .i64 a0] rfl (by (try simp only [List.map_toArray, List.map_cons, List.map_nil]); first | done | rfl | (simp only [List.length_drop, List.length_take]; rfl)) ?_; (with_reducible refine (sheerlegref05_Is.calls a0 t158 _ A23.out).mono ?_); rintro e w' ⟨rfl, ⟨nd, rfl⟩⟩; refine ⟨_, rfl, ?_⟩) | (go_at_call 16; (with_reducible refine (sig_Params.calls a0 t159 _ A25.out).mono ?_); rintro e w' ⟨rfl, ⟨nd, rfl⟩⟩) | (go_at_call 17; (with_reducible refine (sheerlegref05_Params.calls a0 t160 _ A26.out).mono ?_); rintro e w' ⟨rfl, ⟨nd, rfl⟩⟩))
              go_ret
              exact ⟨by first | rfl | (simp [errW_none, errW_some] <;> rfl) | (simp [*, errW_none, errW_some] <;> rfl), by repeat (first | (with_reducible first | exact HB.out | apply below_alloc | apply pw_below_drewN | apply below_drew1) | exact HB.out)⟩
          · rw [if_neg c24] at H
            have c24b0 : (t157 == t158) = false := by simpa using c24
            (try (have c24b1 : decide (t157 = t158) = false := by simpa using c24))
            (try (have c24b2 : (t157 == t158) = false := by simpa using c24))
            (try (have c24b3 : ¬ (t157 = t158) := by simpa using c24))
            clear c24
            obtain rfl := Option.some.inj H
            go_wp2_with (first | ((with_reducible refine gate_callee (f := 14) rfl ?_); refine goesL_ (some 84) rfl rfl Try.func14 (by kernel_rfl) rfl #[.int .i64 a0] rfl (by (try simp only [List.map_toArray, List.map_cons, List.map_nil]); first | done | rfl | (simp only [List.length_drop, List.length_take]; rfl)) ?_; (with_reducible refine (sig_Is.calls a0 t157 _ A22.out).mono ?_); rintro e w' ⟨rfl, ⟨nd, rfl⟩⟩; refine ⟨_, rfl, ?_⟩) | ((with_reducible refine gate_callee (f := 15) rfl ?_); refine goesL_ (some 86) rfl rfl Try.func15 (by kernel_rfl) rfl #[.int .i64 a0] rfl (by (try simp only [List.map_toArray, List.map_cons, List.map_nil]); first | done | rfl | (simp only [List.length_drop, List.length_take]; rfl)) ?_; (with_reducible refine (sheerlegref05_Is.calls a0 t158 _ A23.out).mono ?_); rintro e w' ⟨rfl, ⟨nd, rfl⟩⟩; refine ⟨_, rfl, ?_⟩))
            go_ret
            exact ⟨by first | rfl | (simp [errW_none, errW_some] <;> rfl) | (simp [*, errW_none, errW_some] <;> rfl), by repeat (first | (with_reducible first | exact HB.out | apply below_alloc | apply pw_below_drewN | apply below_drew1) | exact HB.out)⟩

/-- THE ONE PURE STATEMENT of sheerleglaw05_SigTells: yours. -/
def sheerleglaw05_SigTells.Pure : Prop := ∀ (a0 : Int) (a1 : Bool) (a2 : ByteArray), (Lit.int .i64 a0).wf = true → a2.size ≤ 140737488351232 → ∃ k, sheerleglaw05_SigTells.f k a0 a1 a2 = some true
theorem sheerleglaw05_SigTells.walk (P : sheerleglaw05_SigTells.Pure) (a0 : Int) (a1 : Bool) (a2 : ByteArray) (w : World) (w0 : (Lit.int .i64 a0).wf = true) (w2 : a2.size ≤ 140737488351232) :
    Calls Try.prog 3 #[.int .i64 a0, .bool a1, .string a2] w fun e w' => e = .returned (.bool true) ∧ Below w.heap.size w w' := by
  obtain ⟨k, h⟩ := P a0 a1 a2 w0 w2
  refine (sheerleglaw05_SigTells.calls k a0 a1 a2 true w h).mono ?_
  rintro e w' ⟨rfl, hd⟩
  exact ⟨rfl, hd⟩

-- NOT PRINTED: function 40 (op_names)

-- NOT PRINTED: function 25 (op_Name)

-- NOT PRINTED: function 27 (op_Find)

end Go.Proofs.Ytffcgkfdjifjkaa.PG
