-- Written by a program of this work (the print, with parts of our own); Lean checks it.
import Derived.Test.YtffcgkfdjifjkaaPGx0
import Derived.Test.YtffcgkfdjifjkaaPGx3
namespace Go.Proofs.Ytffcgkfdjifjkaa.PG
open Go.RowKit Go.Proofs.YtffcgkfdjifjkaaW.PrintWords Go.Proofs.YtffcgkfdjifjkaaW.PrintLast Go.Proofs.YtffcgkfdjifjkaaW.PrintMore
attribute [local go_sem] max2_int min2_int max_two min_two max_three min_three max_four min_four   -- for this text's walks alone
set_option linter.unusedVariables false
set_option linter.unusedSimpArgs false

/-! ### sheerlegref07_Shape: function 32 -/
mutual
def sheerlegref07_Shape.j0 : Nat → Int → Bool → Option (ByteArray)
  | 0, _, _ => none
  | k + 1, x0, x8 => if x8 = true then (some (⟨#[119, 114, 114, 45]⟩ : ByteArray)) else ((sheerlegref07_Name.f x0).bind fun t187 => (if t187.toList = ([110, 111, 112] : List UInt8) then (some (⟨#[45, 45, 45, 45]⟩ : ByteArray)) else (if t187.toList = ([115, 101, 116] : List UInt8) then (some (⟨#[119, 45, 45, 110]⟩ : ByteArray)) else (if t187.toList = ([109, 111, 118, 101] : List UInt8) then (sheerlegref07_Shape.j1 k t187 (t187.toList == ([109, 111, 118, 101] : List UInt8))) else (sheerlegref07_Shape.j1 k t187 (t187.toList == ([108, 111, 97, 100] : List UInt8)))))))
def sheerlegref07_Shape.j1 : Nat → ByteArray → Bool → Option (ByteArray)
  | 0, _, _ => none
  | k + 1, x10, x15 => if x15 = true then (some (⟨#[119, 114, 45, 45]⟩ : ByteArray)) else (if x10.toList = ([106, 117, 109, 112] : List UInt8) then (some (⟨#[45, 45, 45, 116]⟩ : ByteArray)) else (if x10.toList = ([122, 101, 114, 111] : List UInt8) then (some (⟨#[114, 45, 45, 116]⟩ : ByteArray)) else (if x10.toList = ([105, 110] : List UInt8) then (some (⟨#[119, 45, 45, 45]⟩ : ByteArray)) else (if x10.toList = ([111, 117, 116] : List UInt8) then (sheerlegref07_Shape.j2 k x10 (x10.toList == ([111, 117, 116] : List UInt8))) else (sheerlegref07_Shape.j2 k x10 (x10.toList == ([112, 97, 110, 105, 99] : List UInt8)))))))
def sheerlegref07_Shape.j2 : Nat → ByteArray → Bool → Option (ByteArray)
  | 0, _, _ => none
  | k + 1, x10, x24 => if x24 = true then (some (⟨#[114, 45, 45, 45]⟩ : ByteArray)) else (if x10.toList = ([115, 116, 111, 114, 101] : List UInt8) then (some (⟨#[114, 114, 45, 45]⟩ : ByteArray)) else (if x10.toList = ([102, 117, 110, 99] : List UInt8) then (some (⟨#[103, 45, 45, 45]⟩ : ByteArray)) else (if x10.toList = ([112, 105, 99, 107] : List UInt8) then (some (⟨#[103, 114, 45, 45]⟩ : ByteArray)) else (if x10.toList = ([99, 97, 108, 108] : List UInt8) then (some (⟨#[99, 45, 45, 45]⟩ : ByteArray)) else (if x10.toList = ([118, 105, 97] : List UInt8) then (some (⟨#[99, 102, 107, 45]⟩ : ByteArray)) else (if x10.toList = ([100, 101, 102, 101, 114] : List UInt8) then (some (⟨#[100, 45, 45, 45]⟩ : ByteArray)) else (if x10.toList = ([114, 101, 99, 111, 118, 101, 114] : List UInt8) then (some (⟨#[119, 119, 45, 45]⟩ : ByteArray)) else (if x10.toList = ([114, 101, 116, 117, 114, 110] : List UInt8) then (some (⟨#[118, 45, 45, 45]⟩ : ByteArray)) else (some (⟨#[]⟩ : ByteArray))))))))))
end
def sheerlegref07_Shape.f (k : Nat) (a0 : Int) : Option (ByteArray) := if a0 ≥ 4 then (sheerlegref07_Shape.j0 k a0 (decide (a0 ≤ 10))) else (sheerlegref07_Shape.j0 k a0 false)
theorem sheerlegref07_Shape.mono_l : ∀ k, (∀ y0 y1, LeO (sheerlegref07_Shape.j0 k y0 y1) (sheerlegref07_Shape.j0 (k + 1) y0 y1)) ∧ (∀ y0 y1, LeO (sheerlegref07_Shape.j1 k y0 y1) (sheerlegref07_Shape.j1 (k + 1) y0 y1)) ∧ (∀ y0 y1, LeO (sheerlegref07_Shape.j2 k y0 y1) (sheerlegref07_Shape.j2 (k + 1) y0 y1))
  | 0 => ⟨fun _ _ r h => by simp [sheerlegref07_Shape.j0] at h, fun _ _ r h => by simp [sheerlegref07_Shape.j1] at h, fun _ _ r h => by simp [sheerlegref07_Shape.j2] at h⟩
  | k + 1 => by
    obtain ⟨ih0, ih1, ih2⟩ := sheerlegref07_Shape.mono_l k
    refine ⟨?_, ?_, ?_⟩
    · intro y0 y1
      unfold sheerlegref07_Shape.j0
      repeat' first
      | (with_reducible exact ih0 _ _)
      | (with_reducible exact ih1 _ _)
      | (with_reducible exact ih2 _ _)
      | (with_reducible exact LeO.refl _)
      | (with_reducible exact LeO.none _)
      | (with_reducible refine LeO.ite ?_ ?_)
      | (with_reducible refine LeO.bind ?_ (fun _ => ?_))
      | exact ih0 _ _
      | exact ih1 _ _
      | exact ih2 _ _
      | exact LeO.none _
      | refine LeO.ite ?_ ?_
      | refine LeO.bind ?_ (fun _ => ?_)
    · intro y0 y1
      unfold sheerlegref07_Shape.j1
      repeat' first
      | (with_reducible exact ih0 _ _)
      | (with_reducible exact ih1 _ _)
      | (with_reducible exact ih2 _ _)
      | (with_reducible exact LeO.refl _)
      | (with_reducible exact LeO.none _)
      | (with_reducible refine LeO.ite ?_ ?_)
      | (with_reducible refine LeO.bind ?_ (fun _ => ?_))
      | exact ih0 _ _
      | exact ih1 _ _
      | exact ih2 _ _
      | exact LeO.none _
      | refine LeO.ite ?_ ?_
      | refine LeO.bind ?_ (fun _ => ?_)
    · intro y0 y1
      unfold sheerlegref07_Shape.j2
      repeat' first
      | (with_reducible exact ih0 _ _)
      | (with_reducible exact ih1 _ _)
      | (with_reducible exact ih2 _ _)
      | (with_reducible exact LeO.refl _)
      | (with_reducible exact LeO.none _)
      | (with_reducible refine LeO.ite ?_ ?_)
      | (with_reducible refine LeO.bind ?_ (fun _ => ?_))
      | exact ih0 _ _
      | exact ih1 _ _
      | exact ih2 _ _
      | exact LeO.none _
      | refine LeO.ite ?_ ?_
      | refine LeO.bind ?_ (fun _ => ?_)
theorem sheerlegref07_Shape.mono : ∀ a0 k, LeO (sheerlegref07_Shape.f k a0) (sheerlegref07_Shape.f (k + 1) a0) := by
  intro a0 k
  obtain ⟨ih0, ih1, ih2⟩ := sheerlegref07_Shape.mono_l k
  unfold sheerlegref07_Shape.f
  repeat' first
      | (with_reducible exact ih0 _ _)
      | (with_reducible exact ih1 _ _)
      | (with_reducible exact ih2 _ _)
      | (with_reducible exact LeO.refl _)
      | (with_reducible exact LeO.none _)
      | (with_reducible refine LeO.ite ?_ ?_)
      | (with_reducible refine LeO.bind ?_ (fun _ => ?_))
      | exact ih0 _ _
      | exact ih1 _ _
      | exact ih2 _ _
      | exact LeO.none _
      | refine LeO.ite ?_ ?_
      | refine LeO.bind ?_ (fun _ => ?_)
set_option maxHeartbeats 8000000 in
set_option maxRecDepth 100000 in
theorem sheerlegref07_Shape.calls (k : Nat) (a0 : Int) (r : ByteArray) (w : World) (h : sheerlegref07_Shape.f k a0 = some r) :
    Calls Try.prog 32 #[.int .i64 a0] w fun e w' => e = .returned (.string r) ∧ Below w.heap.size w w' := by
  have HB := Aside0.mk (Below.refl w.heap.size w)
  have H : (if a0 ≥ 4 then (sheerlegref07_Shape.j0 k a0 (decide (a0 ≤ 10))) else (sheerlegref07_Shape.j0 k a0 false)) = some r := h
  clear h
  have HC2 := Aside0.mk H
  clear H
  go_enter Try.func32, Try.ntmps32
  go_upto_region 1 with (fail)
  go_cut [8] (fun v8 wc => ∃ (kq : Nat) (x8_1 : Bool), v8 = .bool x8_1 ∧ Aside0 (sheerlegref07_Shape.j0 kq a0 x8_1 = some r) ∧ Aside0 (kq ≤ k) ∧ Aside0 (Below w.heap.size w wc))
  case first =>
    have H := HC2.out
    clear HC2
    by_cases c3 : a0 ≥ 4
    · rw [if_pos c3] at H
      have c3b0 : decide (4 ≤ a0) = true := decide_eq_true c3
      clear c3
      (first | rw [c3b0] | (simp only [i64_w, i32_w]; rw [c3b0]) | skip)
      have H' := Aside0.mk H
      clear H
      go_wp2
      go_meet
      case rel => exact ⟨_, (decide (a0 ≤ 10)), (by first | rfl | (simp; done) | (simp [*]; done)), H', ⟨by first | omega | exact Nat.le_refl _⟩, ⟨by repeat (first | (with_reducible first | exact HB.out | apply below_alloc | apply pw_below_drewN | apply below_drew1) | exact HB.out)⟩⟩
    · rw [if_neg c3] at H
      have c3b0 : decide (4 ≤ a0) = false := decide_eq_false c3
      clear c3
      (first | rw [c3b0] | (simp only [i64_w, i32_w]; rw [c3b0]) | skip)
      have H' := Aside0.mk H
      clear H
      go_wp2
      go_meet
      case rel => exact ⟨_, (false), (by first | rfl | (simp; done) | (simp [*]; done)), H', ⟨by first | omega | exact Nat.le_refl _⟩, ⟨by repeat (first | (with_reducible first | exact HB.out | apply below_alloc | apply pw_below_drewN | apply below_drew1) | exact HB.out)⟩⟩
  case rest =>
    clear HC2
    try clear p2
    try clear c3
    try clear c3b0
    obtain ⟨kq, x8_1, rfl, HA, HJ1, HB⟩ := hcut
    cases kq with
    | zero => exact absurd HA.out (by simp [sheerlegref07_Shape.j0])
    | succ kj1 =>
      have H := HA.out
      clear HA
      simp only [sheerlegref07_Shape.j0] at H
      by_cases c4 : x8_1 = true
      · subst c4
        have H1 : (some (⟨#[119, 114, 114, 45]⟩ : ByteArray)) = some r := by rw [if_pos rfl] at H; exact H
        clear H
        have H := H1
        clear H1
        obtain rfl := Option.some.inj H
        go_wp2
        go_ret
        exact ⟨by first | rfl | (simp [errW_none, errW_some] <;> rfl) | (simp [*, errW_none, errW_some] <;> rfl), by repeat (first | (with_reducible first | exact HB.out | apply below_alloc | apply pw_below_drewN | apply below_drew1) | exact HB.out)⟩
      · replace c4 := Bool.eq_false_iff.mpr c4
        subst c4
        have H1 : ((sheerlegref07_Name.f a0).bind fun t187 => (if t187.toList = ([110, 111, 112] : List UInt8) then (some (⟨#[45, 45, 45, 45]⟩ : ByteArray)) else (if t187.toList = ([115, 101, 116] : List UInt8) then (some (⟨#[119, 45, 45, 110]⟩ : ByteArray)) else (if t187.toList = ([109, 111, 118, 101] : List UInt8) then (sheerlegref07_Shape.j1 kj1 t187 (t187.toList == ([109, 111, 118, 101] : List UInt8))) else (sheerlegref07_Shape.j1 kj1 t187 (t187.toList == ([108, 111, 97, 100] : List UInt8))))))) = some r := by rw [if_neg (show ¬ (false = true) by decide)] at H; exact H
        clear H
        have H := H1
        clear H1
        replace H := Option.bind_eq_some_iff.mp H
        obtain ⟨t187, A50, H⟩ := H
        replace H : (if t187.toList = ([110, 111, 112] : List UInt8) then (some (⟨#[45, 45, 45, 45]⟩ : ByteArray)) else (if t187.toList = ([115, 101, 116] : List UInt8) then (some (⟨#[119, 45, 45, 110]⟩ : ByteArray)) else (if t187.toList = ([109, 111, 118, 101] : List UInt8) then (sheerlegref07_Shape.j1 kj1 t187 (t187.toList == ([109, 111, 118, 101] : List UInt8))) else (sheerlegref07_Shape.j1 kj1 t187 (t187.toList == ([108, 111, 97, 100] : List UInt8)))))) = some r := H
        have A5 := Aside0.mk A50
        clear A50
        by_cases c6 : t187.toList = ([110, 111, 112] : List UInt8)
        · rw [if_pos c6] at H
          have c6b0 : (t187.toList == ([110, 111, 112] : List UInt8)) = true := beq_iff_eq.mpr c6
          have c6b1 : (t187.toList != ([110, 111, 112] : List UInt8)) = false := bne_eq_false_iff_eq.mpr c6
          clear c6
          obtain rfl := Option.some.inj H
          go_wp2_with (first | ((with_reducible refine gate_callee (f := 26) rfl ?_); refine goesL_ (some 10) rfl rfl Try.func26 (by kernel_rfl) rfl #[.int .i64 a0] rfl (by (try simp only [List.map_toArray, List.map_cons, List.map_nil]); first | done | rfl | (simp only [List.length_drop, List.length_take]; rfl)) ?_; (with_reducible refine (sheerlegref07_Name.calls a0 t187 _ A5.out).mono ?_); rintro e w7 ⟨rfl, hb⟩; refine ⟨_, rfl, ?_⟩; have n0_ := Aside0.mk (below_step (by repeat (first | (with_reducible first | exact HB.out | apply below_alloc | apply pw_below_drewN | apply below_drew1) | exact HB.out)) hb); clear HB; have HB := n0_; clear n0_; (try clear hb); (try clear hb2); (try clear hk); (try clear hi)))
          go_ret
          exact ⟨by first | rfl | (simp [errW_none, errW_some] <;> rfl) | (simp [*, errW_none, errW_some] <;> rfl), by repeat (first | (with_reducible first | exact HB.out | apply below_alloc | apply pw_below_drewN | apply below_drew1) | exact HB.out)⟩
        · rw [if_neg c6] at H
          have c6b0 : (t187.toList == ([110, 111, 112] : List UInt8)) = false := beq_eq_false_iff_ne.mpr c6
          have c6b1 : (t187.toList != ([110, 111, 112] : List UInt8)) = true := bne_iff_ne.mpr c6
          by_cases c8 : t187.toList = ([115, 101, 116] : List UInt8)
          · rw [if_pos c8] at H
            have c8b0 : (t187.toList == ([115, 101, 116] : List UInt8)) = true := beq_iff_eq.mpr c8
            have c8b1 : (t187.toList != ([115, 101, 116] : List UInt8)) = false := bne_eq_false_iff_eq.mpr c8
            clear c8
            obtain rfl := Option.some.inj H
            go_wp2_with (first | ((with_reducible refine gate_callee (f := 26) rfl ?_); refine goesL_ (some 10) rfl rfl Try.func26 (by kernel_rfl) rfl #[.int .i64 a0] rfl (by (try simp only [List.map_toArray, List.map_cons, List.map_nil]); first | done | rfl | (simp only [List.length_drop, List.length_take]; rfl)) ?_; (with_reducible refine (sheerlegref07_Name.calls a0 t187 _ A5.out).mono ?_); rintro e w9 ⟨rfl, hb⟩; refine ⟨_, rfl, ?_⟩; have n0_ := Aside0.mk (below_step (by repeat (first | (with_reducible first | exact HB.out | apply below_alloc | apply pw_below_drewN | apply below_drew1) | exact HB.out)) hb); clear HB; have HB := n0_; clear n0_; (try clear hb); (try clear hb2); (try clear hk); (try clear hi)))
            go_ret
            exact ⟨by first | rfl | (simp [errW_none, errW_some] <;> rfl) | (simp [*, errW_none, errW_some] <;> rfl), by repeat (first | (with_reducible first | exact HB.out | apply below_alloc | apply pw_below_drewN | apply below_drew1) | exact HB.out)⟩
          · rw [if_neg c8] at H
            have c8b0 : (t187.toList == ([115, 101, 116] : List UInt8)) = false := beq_eq_false_iff_ne.mpr c8
            have c8b1 : (t187.toList != ([115, 101, 116] : List UInt8)) = true := bne_iff_ne.mpr c8
            have HC10 := Aside0.mk H
            clear H
            go_upto_if 15 with (first | ((with_reducible refine gate_callee (f := 26) rfl ?_); refine goesL_ (some 10) rfl rfl Try.func26 (by kernel_rfl) rfl #[.int .i64 a0] rfl (by (try simp only [List.map_toArray, List.map_cons, List.map_nil]); first | done | rfl | (simp only [List.length_drop, List.length_take]; rfl)) ?_; (with_reducible refine (sheerlegref07_Name.calls a0 t187 _ A5.out).mono ?_); rintro e w11 ⟨rfl, hb⟩; refine ⟨_, rfl, ?_⟩; have n0_ := Aside0.mk (below_step (by repeat (first | (with_reducible first | exact HB.out | apply below_alloc | apply pw_below_drewN | apply below_drew1) | exact HB.out)) hb); clear HB; have HB := n0_; clear n0_; (try clear hb); (try clear hb2); (try clear hk); (try clear hi)))
            (try simp only [Act.put, List.setIfInBounds_toArray, List.set_cons_zero, List.set_cons_succ])
            go_cut [15] (fun v15 wc => ∃ (kq : Nat) (x15_9 : Bool), v15 = .bool x15_9 ∧ Aside0 (sheerlegref07_Shape.j1 kq t187 x15_9 = some r) ∧ Aside0 (kq ≤ kj1) ∧ Aside0 (Below w.heap.size w wc))
            case first =>
              have H := HC10.out
              clear HC10
              by_cases c12 : t187.toList = ([109, 111, 118, 101] : List UInt8)
              · rw [if_pos c12] at H
                have c12b0 : (t187.toList == ([109, 111, 118, 101] : List UInt8)) = true := beq_iff_eq.mpr c12
                have c12b1 : (t187.toList != ([109, 111, 118, 101] : List UInt8)) = false := bne_eq_false_iff_eq.mpr c12
                clear c12
                (first | rw [c12b0] | (simp only [i64_w, i32_w]; rw [c12b0]) | skip)
                have H' := Aside0.mk H
                clear H
                go_wp2
                go_meet
                case rel => exact ⟨_, ((t187.toList == ([109, 111, 118, 101] : List UInt8))), (by first | rfl | (simp; done) | (simp [*]; done)), H', ⟨by have := HJ1.out; first | omega | exact Nat.le_refl _⟩, ⟨by repeat (first | (with_reducible first | exact HB.out | apply below_alloc | apply pw_below_drewN | apply below_drew1) | exact HB.out)⟩⟩
              · rw [if_neg c12] at H
                have c12b0 : (t187.toList == ([109, 111, 118, 101] : List UInt8)) = false := beq_eq_false_iff_ne.mpr c12
                have c12b1 : (t187.toList != ([109, 111, 118, 101] : List UInt8)) = true := bne_iff_ne.mpr c12
                (first | rw [c12b0] | (simp only [i64_w, i32_w]; rw [c12b0]) | skip)
                have H' := Aside0.mk H
                clear H
                go_wp2
                go_meet
                case rel => exact ⟨_, ((t187.toList == ([108, 111, 97, 100] : List UInt8))), (by first | rfl | (simp; done) | (simp [*]; done)), H', ⟨by have := HJ1.out; first | omega | exact Nat.le_refl _⟩, ⟨by repeat (first | (with_reducible first | exact HB.out | apply below_alloc | apply pw_below_drewN | apply below_drew1) | exact HB.out)⟩⟩
            case rest =>
              clear HC10
              try clear c1
              try clear c2
              try clear p2
              try clear c3
              try clear c3b0
              try clear c4
              try clear c6
              try clear c6b0
              try clear c6b1
              try clear c8
              try clear c8b0
              try clear c8b1
              try clear c12
              try clear c12b0
              try clear c12b1
              try clear p2
              obtain ⟨kq, x15_9, rfl, HA, HJ9, HB⟩ := hcut
              cases kq with
              | zero => exact absurd HA.out (by simp [sheerlegref07_Shape.j1])
              | succ kj9 =>
                have H := HA.out
                clear HA
                simp only [sheerlegref07_Shape.j1] at H
                by_cases c13 : x15_9 = true
                · subst c13
                  have H1 : (some (⟨#[119, 114, 45, 45]⟩ : ByteArray)) = some r := by rw [if_pos rfl] at H; exact H
                  clear H
                  have H := H1
                  clear H1
                  obtain rfl := Option.some.inj H
                  go_wp2
                  go_ret
                  exact ⟨by first | rfl | (simp [errW_none, errW_some] <;> rfl) | (simp [*, errW_none, errW_some] <;> rfl), by repeat (first | (with_reducible first | exact HB.out | apply below_alloc | apply pw_below_drewN | apply below_drew1) | exact HB.out)⟩
                · replace c13 := Bool.eq_false_iff.mpr c13
                  subst c13
                  have H1 : (if t187.toList = ([106, 117, 109, 112] : List UInt8) then (some (⟨#[45, 45, 45, 116]⟩ : ByteArray)) else (if t187.toList = ([122, 101, 114, 111] : List UInt8) then (some (⟨#[114, 45, 45, 116]⟩ : ByteArray)) else (if t187.toList = ([105, 110] : List UInt8) then (some (⟨#[119, 45, 45, 45]⟩ : ByteArray)) else (if t187.toList = ([111, 117, 116] : List UInt8) then (sheerlegref07_Shape.j2 kj9 t187 (t187.toList == ([111, 117, 116] : List UInt8))) else (sheerlegref07_Shape.j2 kj9 t187 (t187.toList == ([112, 97, 110, 105, 99] : List UInt8))))))) = some r := by rw [if_neg (show ¬ (false = true) by decide)] at H; exact H
                  clear H
                  have H := H1
                  clear H1
                  by_cases c14 : t187.toList = ([106, 117, 109, 112] : List UInt8)
                  · rw [if_pos c14] at H
                    have c14b0 : (t187.toList == ([106, 117, 109, 112] : List UInt8)) = true := beq_iff_eq.mpr c14
                    have c14b1 : (t187.toList != ([106, 117, 109, 112] : List UInt8)) = false := bne_eq_false_iff_eq.mpr c14
                    clear c14
                    obtain rfl := Option.some.inj H
                    go_wp2
                    go_ret
                    exact ⟨by first | rfl | (simp [errW_none, errW_some] <;> rfl) | (simp [*, errW_none, errW_some] <;> rfl), by repeat (first | (with_reducible first | exact HB.out | apply below_alloc | apply pw_below_drewN | apply below_drew1) | exact HB.out)⟩
                  · rw [if_neg c14] at H
                    have c14b0 : (t187.toList == ([106, 117, 109, 112] : List UInt8)) = false := beq_eq_false_iff_ne.mpr c14
                    have c14b1 : (t187.toList != ([106, 117, 109, 112] : List UInt8)) = true := bne_iff_ne.mpr c14
                    by_cases c15 : t187.toList = ([122, 101, 114, 111] : List UInt8)
                    · rw [if_pos c15] at H
                      have c15b0 : (t187.toList == ([122, 101, 114, 111] : List UInt8)) = true := beq_iff_eq.mpr c15
                      have c15b1 : (t187.toList != ([122, 101, 114, 111] : List UInt8)) = false := bne_eq_false_iff_eq.mpr c15
                      clear c15
                      obtain rfl := Option.some.inj H
                      go_wp2
                      go_ret
                      exact ⟨by first | rfl | (simp [errW_none, errW_some] <;> rfl) | (simp [*, errW_none, errW_some] <;> rfl), by repeat (first | (with_reducible first | exact HB.out | apply below_alloc | apply pw_below_drewN | apply below_drew1) | exact HB.out)⟩
                    · rw [if_neg c15] at H
                      have c15b0 : (t187.toList == ([122, 101, 114, 111] : List UInt8)) = false := beq_eq_false_iff_ne.mpr c15
                      have c15b1 : (t187.toList != ([122, 101, 114, 111] : List UInt8)) = true := bne_iff_ne.mpr c15
                      by_cases c16 : t187.toList = ([105, 110] : List UInt8)
                      · rw [if_pos c16] at H
                        have c16b0 : (t187.toList == ([105, 110] : List UInt8)) = true := beq_iff_eq.mpr c16
                        have c16b1 : (t187.toList != ([105, 110] : List UInt8)) = false := bne_eq_false_iff_eq.mpr c16
                        clear c16
                        obtain rfl := Option.some.inj H
                        go_wp2
                        go_ret
                        exact ⟨by first | rfl | (simp [errW_none, errW_some] <;> rfl) | (simp [*, errW_none, errW_some] <;> rfl), by repeat (first | (with_reducible first | exact HB.out | apply below_alloc | apply pw_below_drewN | apply below_drew1) | exact HB.out)⟩
                      · rw [if_neg c16] at H
                        have c16b0 : (t187.toList == ([105, 110] : List UInt8)) = false := beq_eq_false_iff_ne.mpr c16
                        have c16b1 : (t187.toList != ([105, 110] : List UInt8)) = true := bne_iff_ne.mpr c16
                        have HC17 := Aside0.mk H
                        clear H
                        go_upto_if 24 with (fail)
                        go_cut [24] (fun v24 wc => ∃ (kq : Nat) (x24_16 : Bool), v24 = .bool x24_16 ∧ Aside0 (sheerlegref07_Shape.j2 kq t187 x24_16 = some r) ∧ Aside0 (kq ≤ kj9) ∧ Aside0 (Below w.heap.size w wc))
                        case first =>
                          have H := HC17.out
                          clear HC17
                          by_cases c18 : t187.toList = ([111, 117, 116] : List UInt8)
                          · rw [if_pos c18] at H
                            have c18b0 : (t187.toList == ([111, 117, 116] : List UInt8)) = true := beq_iff_eq.mpr c18
                            have c18b1 : (t187.toList != ([111, 117, 116] : List UInt8)) = false := bne_eq_false_iff_eq.mpr c18
                            clear c18
                            (first | rw [c18b0] | (simp only [i64_w, i32_w]; rw [c18b0]) | skip)
                            have H' := Aside0.mk H
                            clear H
                            go_wp2
                            go_meet
                            case rel => exact ⟨_, ((t187.toList == ([111, 117, 116] : List UInt8))), (by first | rfl | (simp; done) | (simp [*]; done)), H', ⟨by have := HJ1.out; have := HJ9.out; first | omega | exact Nat.le_refl _⟩, ⟨by repeat (first | (with_reducible first | exact HB.out | apply below_alloc | apply pw_below_drewN | apply below_drew1) | exact HB.out)⟩⟩
                          · rw [if_neg c18] at H
                            have c18b0 : (t187.toList == ([111, 117, 116] : List UInt8)) = false := beq_eq_false_iff_ne.mpr c18
                            have c18b1 : (t187.toList != ([111, 117, 116] : List UInt8)) = true := bne_iff_ne.mpr c18
                            (first | rw [c18b0] | (simp only [i64_w, i32_w]; rw [c18b0]) | skip)
                            have H' := Aside0.mk H
                            clear H
                            go_wp2
                            go_meet
                            case rel => exact ⟨_, ((t187.toList == ([112, 97, 110, 105, 99] : List UInt8))), (by first | rfl | (simp; done) | (simp [*]; done)), H', ⟨by have := HJ1.out; have := HJ9.out; first | omega | exact Nat.le_refl _⟩, ⟨by repeat (first | (with_reducible first | exact HB.out | apply below_alloc | apply pw_below_drewN | apply below_drew1) | exact HB.out)⟩⟩
                        case rest =>
                          clear HC17
                          try clear c1
                          try clear c2
                          try clear p2
                          try clear c3
                          try clear c3b0
                          try clear c4
                          try clear c6
                          try clear c6b0
                          try clear c6b1
                          try clear c8
                          try clear c8b0
                          try clear c8b1
                          try clear c12
                          try clear c12b0
                          try clear c12b1
                          try clear c13
                          try clear c14
                          try clear c14b0
                          try clear c14b1
                          try clear c15
                          try clear c15b0
                          try clear c15b1
                          try clear c16
                          try clear c16b0
                          try clear c16b1
                          try clear c18
                          try clear c18b0
                          try clear c18b1
                          try clear p2
                          obtain ⟨kq, x24_16, rfl, HA, HJ16, HB⟩ := hcut
                          cases kq with
                          | zero => exact absurd HA.out (by simp [sheerlegref07_Shape.j2])
                          | succ kj16 =>
                            have H := HA.out
                            clear HA
                            simp only [sheerlegref07_Shape.j2] at H
                            by_cases c19 : x24_16 = true
                            · subst c19
                              have H1 : (some (⟨#[114, 45, 45, 45]⟩ : ByteArray)) = some r := by rw [if_pos rfl] at H; exact H
                              clear H
                              have H := H1
                              clear H1
                              obtain rfl := Option.some.inj H
                              go_wp2
                              go_ret
                              exact ⟨by first | rfl | (simp [errW_none, errW_some] <;> rfl) | (simp [*, errW_none, errW_some] <;> rfl), by repeat (first | (with_reducible first | exact HB.out | apply below_alloc | apply pw_below_drewN | apply below_drew1) | exact HB.out)⟩
                            · replace c19 := Bool.eq_false_iff.mpr c19
                              subst c19
                              have H1 : (if t187.toList = ([115, 116, 111, 114, 101] : List UInt8) then (some (⟨#[114, 114, 45, 45]⟩ : ByteArray)) else (if t187.toList = ([102, 117, 110, 99] : List UInt8) then (some (⟨#[103, 45, 45, 45]⟩ : ByteArray)) else (if t187.toList = ([112, 105, 99, 107] : List UInt8) then (some (⟨#[103, 114, 45, 45]⟩ : ByteArray)) else (if t187.toList = ([99, 97, 108, 108] : List UInt8) then (some (⟨#[99, 45, 45, 45]⟩ : ByteArray)) else (if t187.toList = ([118, 105, 97] : List UInt8) then (some (⟨#[99, 102, 107, 45]⟩ : ByteArray)) else (if t187.toList = ([100, 101, 102, 101, 114] : List UInt8) then (some (⟨#[100, 45, 45, 45]⟩ : ByteArray)) else (if t187.toList = ([114, 101, 99, 111, 118, 101, 114] : List UInt8) then (some (⟨#[119, 119, 45, 45]⟩ : ByteArray)) else (if t187.toList = ([114, 101, 116, 117, 114, 110] : List UInt8) then (some (⟨#[118, 45, 45, 45]⟩ : ByteArray)) else (some (⟨#[]⟩ : ByteArray)))))))))) = some r := by rw [if_neg (show ¬ (false = true) by decide)] at H; exact H
                              clear H
                              have H := H1
                              clear H1
                              by_cases c20 : t187.toList = ([115, 116, 111, 114, 101] : List UInt8)
                              · rw [if_pos c20] at H
                                have c20b0 : (t187.toList == ([115, 116, 111, 114, 101] : List UInt8)) = true := beq_iff_eq.mpr c20
                                have c20b1 : (t187.toList != ([115, 116, 111, 114, 101] : List UInt8)) = false := bne_eq_false_iff_eq.mpr c20
                                clear c20
                                obtain rfl := Option.some.inj H
                                go_wp2
                                go_ret
                                exact ⟨by first | rfl | (simp [errW_none, errW_some] <;> rfl) | (simp [*, errW_none, errW_some] <;> rfl), by repeat (first | (with_reducible first | exact HB.out | apply below_alloc | apply pw_below_drewN | apply below_drew1) | exact HB.out)⟩
                              · rw [if_neg c20] at H
                                have c20b0 : (t187.toList == ([115, 116, 111, 114, 101] : List UInt8)) = false := beq_eq_false_iff_ne.mpr c20
                                have c20b1 : (t187.toList != ([115, 116, 111, 114, 101] : List UInt8)) = true := bne_iff_ne.mpr c20
                                by_cases c21 : t187.toList = ([102, 117, 110, 99] : List UInt8)
                                · rw [if_pos c21] at H
                                  have c21b0 : (t187.toList == ([102, 117, 110, 99] : List UInt8)) = true := beq_iff_eq.mpr c21
                                  have c21b1 : (t187.toList != ([102, 117, 110, 99] : List UInt8)) = false := bne_eq_false_iff_eq.mpr c21
                                  clear c21
                                  obtain rfl := Option.some.inj H
                                  go_wp2
                                  go_ret
                                  exact ⟨by first | rfl | (simp [errW_none, errW_some] <;> rfl) | (simp [*, errW_none, errW_some] <;> rfl), by repeat (first | (with_reducible first | exact HB.out | apply below_alloc | apply pw_below_drewN | apply below_drew1) | exact HB.out)⟩
                                · rw [if_neg c21] at H
                                  have c21b0 : (t187.toList == ([102, 117, 110, 99] : List UInt8)) = false := beq_eq_false_iff_ne.mpr c21
                                  have c21b1 : (t187.toList != ([102, 117, 110, 99] : List UInt8)) = true := bne_iff_ne.mpr c21
                                  by_cases c22 : t187.toList = ([112, 105, 99, 107] : List UInt8)
                                  · rw [if_pos c22] at H
                                    have c22b0 : (t187.toList == ([112, 105, 99, 107] : List UInt8)) = true := beq_iff_eq.mpr c22
                                    have c22b1 : (t187.toList != ([112, 105, 99, 107] : List UInt8)) = false := bne_eq_false_iff_eq.mpr c22
                                    clear c22
                                    obtain rfl := Option.some.inj H
                                    go_wp2
                                    go_ret
                                    exact ⟨by first | rfl | (simp [errW_none, errW_some] <;> rfl) | (simp [*, errW_none, errW_some] <;> rfl), by repeat (first | (with_reducible first | exact HB.out | apply below_alloc | apply pw_below_drewN | apply below_drew1) | exact HB.out)⟩
                                  · rw [if_neg c22] at H
                                    have c22b0 : (t187.toList == ([112, 105, 99, 107] : List UInt8)) = false := beq_eq_false_iff_ne.mpr c22
                                    have c22b1 : (t187.toList != ([112, 105, 99, 107] : List UInt8)) = true := bne_iff_ne.mpr c22
                                    by_cases c23 : t187.toList = ([99, 97, 108, 108] : List UInt8)
                                    · rw [if_pos c23] at H
                                      have c23b0 : (t187.toList == ([99, 97, 108, 108] : List UInt8)) = true := beq_iff_eq.mpr c23
                                      have c23b1 : (t187.toList != ([99, 97, 108, 108] : List UInt8)) = false := bne_eq_false_iff_eq.mpr c23
                                      clear c23
                                      obtain rfl := Option.some.inj H
                                      go_wp2
                                      go_ret
                                      exact ⟨by first | rfl | (simp [errW_none, errW_some] <;> rfl) | (simp [*, errW_none, errW_some] <;> rfl), by repeat (first | (with_reducible first | exact HB.out | apply below_alloc | apply pw_below_drewN | apply below_drew1) | exact HB.out)⟩
                                    · rw [if_neg c23] at H
                                      have c23b0 : (t187.toList == ([99, 97, 108, 108] : List UInt8)) = false := beq_eq_false_iff_ne.mpr c23
                                      have c23b1 : (t187.toList != ([99, 97, 108, 108] : List UInt8)) = true := bne_iff_ne.mpr c23
                                      by_cases c24 : t187.toList = ([118, 105, 97] : List UInt8)
                                      · rw [if_pos c24] at H
                                        have c24b0 : (t187.toList == ([118, 105, 97] : List UInt8)) = true := beq_iff_eq.mpr c24
                                        have c24b1 : (t187.toList != ([118, 105, 97] : List UInt8)) = false := bne_eq_false_iff_eq.mpr c24
                                        clear c24
                                        obtain rfl := Option.some.inj H
                                        go_wp2
                                        go_ret
                                        exact ⟨by first | rfl | (simp [errW_none, errW_some] <;> rfl) | (simp [*, errW_none, errW_some] <;> rfl), by repeat (first | (with_reducible first | exact HB.out | apply below_alloc | apply pw_below_drewN | apply below_drew1) | exact HB.out)⟩
                                      · rw [if_neg c24] at H
                                        have c24b0 : (t187.toList == ([118, 105, 97] : List UInt8)) = false := beq_eq_false_iff_ne.mpr c24
                                        have c24b1 : (t187.toList != ([118, 105, 97] : List UInt8)) = true := bne_iff_ne.mpr c24
                                        by_cases c25 : t187.toList = ([100, 101, 102, 101, 114] : List UInt8)
                                        · rw [if_pos c25] at H
                                          have c25b0 : (t187.toList == ([100, 101, 102, 101, 114] : List UInt8)) = true := beq_iff_eq.mpr c25
                                          have c25b1 : (t187.toList != ([100, 101, 102, 101, 114] : List UInt8)) = false := bne_eq_false_iff_eq.mpr c25
                                          clear c25
                                          obtain rfl := Option.some.inj H
                                          go_wp2
                                          go_ret
                                          exact ⟨by first | rfl | (simp [errW_none, errW_some] <;> rfl) | (simp [*, errW_none, errW_some] <;> rfl), by repeat (first | (with_reducible first | exact HB.out | apply below_alloc | apply pw_below_drewN | apply below_drew1) | exact HB.out)⟩
                                        · rw [if_neg c25] at H
                                          have c25b0 : (t187.toList == ([100, 101, 102, 101, 114] : List UInt8)) = false := beq_eq_false_iff_ne.mpr c25
                                          have c25b1 : (t187.toList != ([100, 101, 102, 101, 114] : List UInt8)) = true := bne_iff_ne.mpr c25
                                          by_cases c26 : t187.toList = ([114, 101, 99, 111, 118, 101, 114] : List UInt8)
                                          · rw [if_pos c26] at H
                                            have c26b0 : (t187.toList == ([114, 101, 99, 111, 118, 101, 114] : List UInt8)) = true := beq_iff_eq.mpr c26
                                            have c26b1 : (t187.toList != ([114, 101, 99, 111, 118, 101, 114] : List UInt8)) = false := bne_eq_false_iff_eq.mpr c26
                                            clear c26
                                            obtain rfl := Option.some.inj H
                                            go_wp2
                                            go_ret
                                            exact ⟨by first | rfl | (simp [errW_none, errW_some] <;> rfl) | (simp [*, errW_none, errW_some] <;> rfl), by repeat (first | (with_reducible first | exact HB.out | apply below_alloc | apply pw_below_drewN | apply below_drew1) | exact HB.out)⟩
                                          · rw [if_neg c26] at H
                                            have c26b0 : (t187.toList == ([114, 101, 99, 111, 118, 101, 114] : List UInt8)) = false := beq_eq_false_iff_ne.mpr c26
                                            have c26b1 : (t187.toList != ([114, 101, 99, 111, 118, 101, 114] : List UInt8)) = true := bne_iff_ne.mpr c26
                                            by_cases c27 : t187.toList = ([114, 101, 116, 117, 114, 110] : List UInt8)
                                            · rw [if_pos c27] at H
                                              have c27b0 : (t187.toList == ([114, 101, 116, 117, 114, 110] : List UInt8)) = true := beq_iff_eq.mpr c27
                                              have c27b1 : (t187.toList != ([114, 101, 116, 117, 114, 110] : List UInt8)) = false := bne_eq_false_iff_eq.mpr c27
                                              clear c27
                                              obtain rfl := Option.some.inj H
                                              go_wp2
                                              go_ret
                                              exact ⟨by first | rfl | (simp [errW_none, errW_some] <;> rfl) | (simp [*, errW_none, errW_some] <;> rfl), by repeat (first | (with_reducible first | exact HB.out | apply below_alloc | apply pw_below_drewN | apply below_drew1) | exact HB.out)⟩
                                            · rw [if_neg c27] at H
                                              have c27b0 : (t187.toList == ([114, 101, 116, 117, 114, 110] : List UInt8)) = false := beq_eq_false_iff_ne.mpr c27
                                              have c27b1 : (t187.toList != ([114, 101, 116, 117, 114, 110] : List UInt8)) = true := bne_iff_ne.mpr c27
                                              obtain rfl := Option.some.inj H
                                              go_wp2
                                              go_ret
                                              exact ⟨by first | rfl | (simp [errW_none, errW_some] <;> rfl) | (simp [*, errW_none, errW_some] <;> rfl), by repeat (first | (with_reducible first | exact HB.out | apply below_alloc | apply pw_below_drewN | apply below_drew1) | exact HB.out)⟩

/-! ### sheerlegref07_Need: function 34 -/
def sheerlegref07_Need.j0 : Nat → ByteArray → Bool → Option (Int)
  | 0, _, _ => none
  | k + 1, x4, x9 => if x9 = true then (some 3) else (if x4.toList = ([112, 105, 99, 107] : List UInt8) then (some 4) else (if x4.toList = ([100, 101, 102, 101, 114] : List UInt8) then (some 5) else (some 0)))
def sheerlegref07_Need.f (k : Nat) (a0 : Int) : Option (Int) := (sheerlegref07_Name.f a0).bind fun t188 => (if t188.toList = ([99, 97, 108, 108] : List UInt8) then (some 1) else (if t188.toList = ([102, 117, 110, 99] : List UInt8) then (some 2) else (if t188.toList = ([108, 111, 97, 100] : List UInt8) then (sheerlegref07_Need.j0 k t188 (t188.toList == ([108, 111, 97, 100] : List UInt8))) else (sheerlegref07_Need.j0 k t188 (t188.toList == ([115, 116, 111, 114, 101] : List UInt8))))))
theorem sheerlegref07_Need.mono_l : ∀ k, (∀ y0 y1, LeO (sheerlegref07_Need.j0 k y0 y1) (sheerlegref07_Need.j0 (k + 1) y0 y1))
  | 0 => fun _ _ r h => by simp [sheerlegref07_Need.j0] at h
  | k + 1 => by
    have ih0 := sheerlegref07_Need.mono_l k
    · intro y0 y1
      unfold sheerlegref07_Need.j0
      repeat' first
      | (with_reducible exact ih0 _ _)
      | (with_reducible exact LeO.refl _)
      | (with_reducible exact LeO.none _)
      | (with_reducible refine LeO.ite ?_ ?_)
      | (with_reducible refine LeO.bind ?_ (fun _ => ?_))
      | exact ih0 _ _
      | exact LeO.none _
      | refine LeO.ite ?_ ?_
      | refine LeO.bind ?_ (fun _ => ?_)
theorem sheerlegref07_Need.mono : ∀ a0 k, LeO (sheerlegref07_Need.f k a0) (sheerlegref07_Need.f (k + 1) a0) := by
  intro a0 k
  have ih0 := sheerlegref07_Need.mono_l k
  unfold sheerlegref07_Need.f
  repeat' first
      | (with_reducible exact ih0 _ _)
      | (with_reducible exact LeO.refl _)
      | (with_reducible exact LeO.none _)
      | (with_reducible refine LeO.ite ?_ ?_)
      | (with_reducible refine LeO.bind ?_ (fun _ => ?_))
      | exact ih0 _ _
      | exact LeO.none _
      | refine LeO.ite ?_ ?_
      | refine LeO.bind ?_ (fun _ => ?_)
set_option maxHeartbeats 8000000 in
set_option maxRecDepth 100000 in
theorem sheerlegref07_Need.calls (k : Nat) (a0 : Int) (r : Int) (w : World) (h : sheerlegref07_Need.f k a0 = some r) :
    Calls Try.prog 34 #[.int .i64 a0] w fun e w' => e = .returned (.int .i64 r) ∧ Below w.heap.size w w' := by
  have HB := Aside0.mk (Below.refl w.heap.size w)
  have H : ((sheerlegref07_Name.f a0).bind fun t188 => (if t188.toList = ([99, 97, 108, 108] : List UInt8) then (some 1) else (if t188.toList = ([102, 117, 110, 99] : List UInt8) then (some 2) else (if t188.toList = ([108, 111, 97, 100] : List UInt8) then (sheerlegref07_Need.j0 k t188 (t188.toList == ([108, 111, 97, 100] : List UInt8))) else (sheerlegref07_Need.j0 k t188 (t188.toList == ([115, 116, 111, 114, 101] : List UInt8))))))) = some r := h
  clear h
  replace H := Option.bind_eq_some_iff.mp H
  obtain ⟨t188, A20, H⟩ := H
  replace H : (if t188.toList = ([99, 97, 108, 108] : List UInt8) then (some 1) else (if t188.toList = ([102, 117, 110, 99] : List UInt8) then (some 2) else (if t188.toList = ([108, 111, 97, 100] : List UInt8) then (sheerlegref07_Need.j0 k t188 (t188.toList == ([108, 111, 97, 100] : List UInt8))) else (sheerlegref07_Need.j0 k t188 (t188.toList == ([115, 116, 111, 114, 101] : List UInt8)))))) = some r := H
  have A2 := Aside0.mk A20
  clear A20
  by_cases c3 : t188.toList = ([99, 97, 108, 108] : List UInt8)
  · rw [if_pos c3] at H
    have c3b0 : (t188.toList == ([99, 97, 108, 108] : List UInt8)) = true := beq_iff_eq.mpr c3
    have c3b1 : (t188.toList != ([99, 97, 108, 108] : List UInt8)) = false := bne_eq_false_iff_eq.mpr c3
    clear c3
    obtain rfl := Option.some.inj H
    go_enter Try.func34, Try.ntmps34
    go_wp2_with (first | ((with_reducible refine gate_callee (f := 26) rfl ?_); refine goesL_ (some 4) rfl rfl Try.func26 (by kernel_rfl) rfl #[.int .i64 a0] rfl (by (try simp only [List.map_toArray, List.map_cons, List.map_nil]); first | done | rfl | (simp only [List.length_drop, List.length_take]; rfl)) ?_; (with_reducible refine (sheerlegref07_Name.calls a0 t188 _ A2.out).mono ?_); rintro e w4 ⟨rfl, hb⟩; refine ⟨_, rfl, ?_⟩; have n0_ := Aside0.mk (below_step (by repeat (first | (with_reducible first | exact HB.out | apply below_alloc | apply pw_below_drewN | apply below_drew1) | exact HB.out)) hb); clear HB; have HB := n0_; clear n0_; (try clear hb); (try clear hb2); (try clear hk); (try clear hi)))
    go_ret
    exact ⟨by first | rfl | (simp [errW_none, errW_some] <;> rfl) | (simp [*, errW_none, errW_some] <;> rfl), by repeat (first | (with_reducible first | exact HB.out | apply below_alloc | apply pw_below_drewN | apply below_drew1) | exact HB.out)⟩
  · rw [if_neg c3] at H
    have c3b0 : (t188.toList == ([99, 97, 108, 108] : List UInt8)) = false := beq_eq_false_iff_ne.mpr c3
    have c3b1 : (t188.toList != ([99, 97, 108, 108] : List UInt8)) = true := bne_iff_ne.mpr c3
    by_cases c5 : t188.toList = ([102, 117, 110, 99] : List UInt8)
    · rw [if_pos c5] at H
      have c5b0 : (t188.toList == ([102, 117, 110, 99] : List UInt8)) = true := beq_iff_eq.mpr c5
      have c5b1 : (t188.toList != ([102, 117, 110, 99] : List UInt8)) = false := bne_eq_false_iff_eq.mpr c5
      clear c5
      obtain rfl := Option.some.inj H
      go_enter Try.func34, Try.ntmps34
      go_wp2_with (first | ((with_reducible refine gate_callee (f := 26) rfl ?_); refine goesL_ (some 4) rfl rfl Try.func26 (by kernel_rfl) rfl #[.int .i64 a0] rfl (by (try simp only [List.map_toArray, List.map_cons, List.map_nil]); first | done | rfl | (simp only [List.length_drop, List.length_take]; rfl)) ?_; (with_reducible refine (sheerlegref07_Name.calls a0 t188 _ A2.out).mono ?_); rintro e w6 ⟨rfl, hb⟩; refine ⟨_, rfl, ?_⟩; have n0_ := Aside0.mk (below_step (by repeat (first | (with_reducible first | exact HB.out | apply below_alloc | apply pw_below_drewN | apply below_drew1) | exact HB.out)) hb); clear HB; have HB := n0_; clear n0_; (try clear hb); (try clear hb2); (try clear hk); (try clear hi)))
      go_ret
      exact ⟨by first | rfl | (simp [errW_none, errW_some] <;> rfl) | (simp [*, errW_none, errW_some] <;> rfl), by repeat (first | (with_reducible first | exact HB.out | apply below_alloc | apply pw_below_drewN | apply below_drew1) | exact HB.out)⟩
    · rw [if_neg c5] at H
      have c5b0 : (t188.toList == ([102, 117, 110, 99] : List UInt8)) = false := beq_eq_false_iff_ne.mpr c5
      have c5b1 : (t188.toList != ([102, 117, 110, 99] : List UInt8)) = true := bne_iff_ne.mpr c5
      have HC7 := Aside0.mk H
      clear H
      go_enter Try.func34, Try.ntmps34
      go_upto_if 9 with (first | ((with_reducible refine gate_callee (f := 26) rfl ?_); refine goesL_ (some 4) rfl rfl Try.func26 (by kernel_rfl) rfl #[.int .i64 a0] rfl (by (try simp only [List.map_toArray, List.map_cons, List.map_nil]); first | done | rfl | (simp only [List.length_drop, List.length_take]; rfl)) ?_; (with_reducible refine (sheerlegref07_Name.calls a0 t188 _ A2.out).mono ?_); rintro e w8 ⟨rfl, hb⟩; refine ⟨_, rfl, ?_⟩; have n0_ := Aside0.mk (below_step (by repeat (first | (with_reducible first | exact HB.out | apply below_alloc | apply pw_below_drewN | apply below_drew1) | exact HB.out)) hb); clear HB; have HB := n0_; clear n0_; (try clear hb); (try clear hb2); (try clear hk); (try clear hi)))
      (try simp only [Act.put, List.setIfInBounds_toArray, List.set_cons_zero, List.set_cons_succ])
      go_cut [9] (fun v9 wc => ∃ (kq : Nat) (x9_6 : Bool), v9 = .bool x9_6 ∧ Aside0 (sheerlegref07_Need.j0 kq t188 x9_6 = some r) ∧ Aside0 (kq ≤ k) ∧ Aside0 (Below w.heap.size w wc))
      case first =>
        have H := HC7.out
        clear HC7
        by_cases c9 : t188.toList = ([108, 111, 97, 100] : List UInt8)
        · rw [if_pos c9] at H
          have c9b0 : (t188.toList == ([108, 111, 97, 100] : List UInt8)) = true := beq_iff_eq.mpr c9
          have c9b1 : (t188.toList != ([108, 111, 97, 100] : List UInt8)) = false := bne_eq_false_iff_eq.mpr c9
          clear c9
          (first | rw [c9b0] | (simp only [i64_w, i32_w]; rw [c9b0]) | skip)
          have H' := Aside0.mk H
          clear H
          go_wp2
          go_meet
          case rel => exact ⟨_, ((t188.toList == ([108, 111, 97, 100] : List UInt8))), (by first | rfl | (simp; done) | (simp [*]; done)), H', ⟨by first | omega | exact Nat.le_refl _⟩, ⟨by repeat (first | (with_reducible first | exact HB.out | apply below_alloc | apply pw_below_drewN | apply below_drew1) | exact HB.out)⟩⟩
        · rw [if_neg c9] at H
          have c9b0 : (t188.toList == ([108, 111, 97, 100] : List UInt8)) = false := beq_eq_false_iff_ne.mpr c9
          have c9b1 : (t188.toList != ([108, 111, 97, 100] : List UInt8)) = true := bne_iff_ne.mpr c9
          (first | rw [c9b0] | (simp only [i64_w, i32_w]; rw [c9b0]) | skip)
          have H' := Aside0.mk H
          clear H
          go_wp2
          go_meet
          case rel => exact ⟨_, ((t188.toList == ([115, 116, 111, 114, 101] : List UInt8))), (by first | rfl | (simp; done) | (simp [*]; done)), H', ⟨by first | omega | exact Nat.le_refl _⟩, ⟨by repeat (first | (with_reducible first | exact HB.out | apply below_alloc | apply pw_below_drewN | apply below_drew1) | exact HB.out)⟩⟩
      case rest =>
        clear HC7
        try clear c2
        try clear p2
        try clear c3
        try clear c3b0
        try clear c3b1
        try clear c5
        try clear c5b0
        try clear c5b1
        try clear c9
        try clear c9b0
        try clear c9b1
        obtain ⟨kq, x9_6, rfl, HA, HJ6, HB⟩ := hcut
        cases kq with
        | zero => exact absurd HA.out (by simp [sheerlegref07_Need.j0])
        | succ kj6 =>
          have H := HA.out
          clear HA
          simp only [sheerlegref07_Need.j0] at H
          by_cases c10 : x9_6 = true
          · subst c10
            have H1 : (some 3) = some r := by rw [if_pos rfl] at H; exact H
            clear H
            have H := H1
            clear H1
            obtain rfl := Option.some.inj H
            go_wp2
            go_ret
            exact ⟨by first | rfl | (simp [errW_none, errW_some] <;> rfl) | (simp [*, errW_none, errW_some] <;> rfl), by repeat (first | (with_reducible first | exact HB.out | apply below_alloc | apply pw_below_drewN | apply below_drew1) | exact HB.out)⟩
          · replace c10 := Bool.eq_false_iff.mpr c10
            subst c10
            have H1 : (if t188.toList = ([112, 105, 99, 107] : List UInt8) then (some 4) else (if t188.toList = ([100, 101, 102, 101, 114] : List UInt8) then (some 5) else (some 0))) = some r := by rw [if_neg (show ¬ (false = true) by decide)] at H; exact H
            clear H
            have H := H1
            clear H1
            by_cases c11 : t188.toList = ([112, 105, 99, 107] : List UInt8)
            · rw [if_pos c11] at H
              have c11b0 : (t188.toList == ([112, 105, 99, 107] : List UInt8)) = true := beq_iff_eq.mpr c11
              have c11b1 : (t188.toList != ([112, 105, 99, 107] : List UInt8)) = false := bne_eq_false_iff_eq.mpr c11
              clear c11
              obtain rfl := Option.some.inj H
              go_wp2
              go_ret
              exact ⟨by first | rfl | (simp [errW_none, errW_some] <;> rfl) | (simp [*, errW_none, errW_some] <;> rfl), by repeat (first | (with_reducible first | exact HB.out | apply below_alloc | apply pw_below_drewN | apply below_drew1) | exact HB.out)⟩
            · rw [if_neg c11] at H
              have c11b0 : (t188.toList == ([112, 105, 99, 107] : List UInt8)) = false := beq_eq_false_iff_ne.mpr c11
              have c11b1 : (t188.toList != ([112, 105, 99, 107] : List UInt8)) = true := bne_iff_ne.mpr c11
              by_cases c12 : t188.toList = ([100, 101, 102, 101, 114] : List UInt8)
              · rw [if_pos c12] at H
                have c12b0 : (t188.toList == ([100, 101, 102, 101, 114] : List UInt8)) = true := beq_iff_eq.mpr c12
                have c12b1 : (t188.toList != ([100, 101, 102, 101, 114] : List UInt8)) = false := bne_eq_false_iff_eq.mpr c12
                clear c12
                obtain rfl := Option.some.inj H
                go_wp2
                go_ret
                exact ⟨by first | rfl | (simp [errW_none, errW_some] <;> rfl) | (simp [*, errW_none, errW_some] <;> rfl), by repeat (first | (with_reducible first | exact HB.out | apply below_alloc | apply pw_below_drewN | apply below_drew1) | exact HB.out)⟩
              · rw [if_neg c12] at H
                have c12b0 : (t188.toList == ([100, 101, 102, 101, 114] : List UInt8)) = false := beq_eq_false_iff_ne.mpr c12
                have c12b1 : (t188.toList != ([100, 101, 102, 101, 114] : List UInt8)) = true := bne_iff_ne.mpr c12
                obtain rfl := Option.some.inj H
                go_wp2
                go_ret
                exact ⟨by first | rfl | (simp [errW_none, errW_some] <;> rfl) | (simp [*, errW_none, errW_some] <;> rfl), by repeat (first | (with_reducible first | exact HB.out | apply below_alloc | apply pw_below_drewN | apply below_drew1) | exact HB.out)⟩

/-! ### sheerlegref07_Ends: function 36 -/
def sheerlegref07_Ends.f (a0 : Int) : Option (Bool) := (sheerlegref07_Name.f a0).bind fun t189 => (if t189.toList = ([106, 117, 109, 112] : List UInt8) then (some true) else ((sheerlegref07_Name.f a0).bind fun t190 => (if t190.toList = ([112, 97, 110, 105, 99] : List UInt8) then (some true) else ((sheerlegref07_Name.f a0).bind fun t191 => (some (t191.toList == ([114, 101, 116, 117, 114, 110] : List UInt8)))))))
set_option maxHeartbeats 8000000 in
set_option maxRecDepth 100000 in
theorem sheerlegref07_Ends.calls (a0 : Int) (r : Bool) (w : World) (h : sheerlegref07_Ends.f a0 = some r) :
    Calls Try.prog 36 #[.int .i64 a0] w fun e w' => e = .returned (.bool r) ∧ Below w.heap.size w w' := by
  have HB := Aside0.mk (Below.refl w.heap.size w)
  have H : ((sheerlegref07_Name.f a0).bind fun t189 => (if t189.toList = ([106, 117, 109, 112] : List UInt8) then (some true) else ((sheerlegref07_Name.f a0).bind fun t190 => (if t190.toList = ([112, 97, 110, 105, 99] : List UInt8) then (some true) else ((sheerlegref07_Name.f a0).bind fun t191 => (some (t191.toList == ([114, 101, 116, 117, 114, 110] : List UInt8)))))))) = some r := h
  clear h
  replace H := Option.bind_eq_some_iff.mp H
  obtain ⟨t189, A20, H⟩ := H
  replace H : (if t189.toList = ([106, 117, 109, 112] : List UInt8) then (some true) else ((sheerlegref07_Name.f a0).bind fun t190 => (if t190.toList = ([112, 97, 110, 105, 99] : List UInt8) then (some true) else ((sheerlegref07_Name.f a0).bind fun t191 => (some (t191.toList == ([114, 101, 116, 117, 114, 110] : List UInt8))))))) = some r := H
  have A2 := Aside0.mk A20
  clear A20
  by_cases c3 : t189.toList = ([106, 117, 109, 112] : List UInt8)
  · rw [if_pos c3] at H
    have c3b0 : (t189.toList == ([106, 117, 109, 112] : List UInt8)) = true := beq_iff_eq.mpr c3
    have c3b1 : (t189.toList != ([106, 117, 109, 112] : List UInt8)) = false := bne_eq_false_iff_eq.mpr c3
    clear c3
    obtain rfl := Option.some.inj H
    go_enter Try.func36, Try.ntmps36
    go_wp2_with (first | ((with_reducible refine gate_callee (f := 26) rfl ?_); refine goesL_ (some 4) rfl rfl Try.func26 (by kernel_rfl) rfl #[.int .i64 a0] rfl (by (try simp only [List.map_toArray, List.map_cons, List.map_nil]); first | done | rfl | (simp only [List.length_drop, List.length_take]; rfl)) ?_; (with_reducible refine (sheerlegref07_Name.calls a0 t189 _ A2.out).mono ?_); rintro e w4 ⟨rfl, hb⟩; refine ⟨_, rfl, ?_⟩; have n0_ := Aside0.mk (below_step (by repeat (first | (with_reducible first | exact HB.out | apply below_alloc | apply pw_below_drewN | apply below_drew1) | exact HB.out)) hb); clear HB; have HB := n0_; clear n0_; (try clear hb); (try clear hb2); (try clear hk); (try clear hi)))
    go_ret
    exact ⟨by first | rfl | (simp [errW_none, errW_some] <;> rfl) | (simp [*, errW_none, errW_some] <;> rfl), by repeat (first | (with_reducible first | exact HB.out | apply below_alloc | apply pw_below_drewN | apply below_drew1) | exact HB.out)⟩
  · rw [if_neg c3] at H
    have c3b0 : (t189.toList == ([106, 117, 109, 112] : List UInt8)) = false := beq_eq_false_iff_ne.mpr c3
    have c3b1 : (t189.toList != ([106, 117, 109, 112] : List UInt8)) = true := bne_iff_ne.mpr c3
    replace H := Option.bind_eq_some_iff.mp H
    obtain ⟨t190, A50, H⟩ := H
    replace H : (if t190.toList = ([112, 97, 110, 105, 99] : List UInt8) then (some true) else ((sheerlegref07_Name.f a0).bind fun t191 => (some (t191.toList == ([114, 101, 116, 117, 114, 110] : List UInt8))))) = some r := H
    have A5 := Aside0.mk A50
    clear A50
    have same_ := Option.some.inj (A2.out.symm.trans A5.out)
    obtain rfl := same_
    replace H : (if t189.toList = ([112, 97, 110, 105, 99] : List UInt8) then (some true) else ((sheerlegref07_Name.f a0).bind fun t191 => (some (t191.toList == ([114, 101, 116, 117, 114, 110] : List UInt8))))) = some r := H
    by_cases c6 : t189.toList = ([112, 97, 110, 105, 99] : List UInt8)
    · rw [if_pos c6] at H
      have c6b0 : (t189.toList == ([112, 97, 110, 105, 99] : List UInt8)) = true := beq_iff_eq.mpr c6
      have c6b1 : (t189.toList != ([112, 97, 110, 105, 99] : List UInt8)) = false := bne_eq_false_iff_eq.mpr c6
      clear c6
      obtain rfl := Option.some.inj H
      go_enter Try.func36, Try.ntmps36
      go_wp2_with (first | ((with_reducible refine gate_callee (f := 26) rfl ?_); refine goesL_ (some 4) rfl rfl Try.func26 (by kernel_rfl) rfl #[.int .i64 a0] rfl (by (try simp only [List.map_toArray, List.map_cons, List.map_nil]); first | done | rfl | (simp only [List.length_drop, List.length_take]; rfl)) ?_; (with_reducible refine (sheerlegref07_Name.calls a0 t189 _ A2.out).mono ?_); rintro e w7 ⟨rfl, hb⟩; refine ⟨_, rfl, ?_⟩; have n0_ := Aside0.mk (below_step (by repeat (first | (with_reducible first | exact HB.out | apply below_alloc | apply pw_below_drewN | apply below_drew1) | exact HB.out)) hb); clear HB; have HB := n0_; clear n0_; (try clear hb); (try clear hb2); (try clear hk); (try clear hi)) | (go_at_call 26; (with_reducible refine (sheerlegref07_Name.calls a0 t189 _ A5.out).mono ?_); rintro e w8 ⟨rfl, hb⟩; have n0_ := Aside0.mk (below_step (by repeat (first | (with_reducible first | exact HB.out | apply below_alloc | apply pw_below_drewN | apply below_drew1) | exact HB.out)) hb); clear HB; have HB := n0_; clear n0_; (try clear hb); (try clear hb2); (try clear hk); (try clear hi)))
      go_ret
      exact ⟨by first | rfl | (simp [errW_none, errW_some] <;> rfl) | (simp [*, errW_none, errW_some] <;> rfl), by repeat (first | (with_reducible first | exact HB.out | apply below_alloc | apply pw_below_drewN | apply below_drew1) | exact HB.out)⟩
    · rw [if_neg c6] at H
      have c6b0 : (t189.toList == ([112, 97, 110, 105, 99] : List UInt8)) = false := beq_eq_false_iff_ne.mpr c6
      have c6b1 : (t189.toList != ([112, 97, 110, 105, 99] : List UInt8)) = true := bne_iff_ne.mpr c6
      replace H := Option.bind_eq_some_iff.mp H
      obtain ⟨t191, A90, H⟩ := H
      replace H : (some (t191.toList == ([114, 101, 116, 117, 114, 110] : List UInt8))) = some r := H
      have A9 := Aside0.mk A90
      clear A90
      have same_ := Option.some.inj (A2.out.symm.trans A9.out)
      obtain rfl := same_
      replace H : (some (t189.toList == ([114, 101, 116, 117, 114, 110] : List UInt8))) = some r := H
      obtain rfl := Option.some.inj H
      go_enter Try.func36, Try.ntmps36
      go_wp2_with (first | ((with_reducible refine gate_callee (f := 26) rfl ?_); refine goesL_ (some 4) rfl rfl Try.func26 (by kernel_rfl) rfl #[.int .i64 a0] rfl (by (try simp only [List.map_toArray, List.map_cons, List.map_nil]); first | done | rfl | (simp only [List.length_drop, List.length_take]; rfl)) ?_; (with_reducible refine (sheerlegref07_Name.calls a0 t189 _ A2.out).mono ?_); rintro e w10 ⟨rfl, hb⟩; refine ⟨_, rfl, ?_⟩; have n0_ := Aside0.mk (below_step (by repeat (first | (with_reducible first | exact HB.out | apply below_alloc | apply pw_below_drewN | apply below_drew1) | exact HB.out)) hb); clear HB; have HB := n0_; clear n0_; (try clear hb); (try clear hb2); (try clear hk); (try clear hi)) | (go_at_call 26; (with_reducible refine (sheerlegref07_Name.calls a0 t189 _ A5.out).mono ?_); rintro e w11 ⟨rfl, hb⟩; have n0_ := Aside0.mk (below_step (by repeat (first | (with_reducible first | exact HB.out | apply below_alloc | apply pw_below_drewN | apply below_drew1) | exact HB.out)) hb); clear HB; have HB := n0_; clear n0_; (try clear hb); (try clear hb2); (try clear hk); (try clear hi)) | (go_at_call 26; (with_reducible refine (sheerlegref07_Name.calls a0 t189 _ A9.out).mono ?_); rintro e w12 ⟨rfl, hb⟩; have n0_ := Aside0.mk (below_step (by repeat (first | (with_reducible first | exact HB.out | apply below_alloc | apply pw_below_drewN | apply below_drew1) | exact HB.out)) hb); clear HB; have HB := n0_; clear n0_; (try clear hb); (try clear hb2); (try clear hk); (try clear hi)))
      go_ret
      exact ⟨by first | rfl | (simp [errW_none, errW_some] <;> rfl) | (simp [*, errW_none, errW_some] <;> rfl), by repeat (first | (with_reducible first | exact HB.out | apply below_alloc | apply pw_below_drewN | apply below_drew1) | exact HB.out)⟩

end Go.Proofs.Ytffcgkfdjifjkaa.PG
