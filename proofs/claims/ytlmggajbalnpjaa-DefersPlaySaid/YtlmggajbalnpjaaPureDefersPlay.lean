/- What the plain functions answer: the law, without program or memory. -/
import Derived.Test.YtlmggajbalnpjaaMG
import Derived.IntWalk
namespace Go.Proofs.Ytlmggajbalnpjaa.defersPlay
open Go.AX Go.Proofs.Ytlmggajbalnpjaa.g
set_option linter.unusedVariables false
set_option linter.unusedSimpArgs false
theorem cond_ite (b : Bool) (x y : Option Bool) : cond_ b x y = if b = true then x else y := by cases b <;> rfl
@[simp] theorem cond_t (x y : Option Bool) : cond_ true x y = x := rfl
@[simp] theorem cond_f (x y : Option Bool) : cond_ false x y = y := rfl
theorem cond_pos {b : Bool} {x y : Option Bool} (h : b = true) : cond_ b x y = x := by rw [h]; rfl
theorem cond_neg {b : Bool} {x y : Option Bool} (h : b = false) : cond_ b x y = y := by rw [h]; rfl
@[simp] theorem meet_self (x : Option Bool) : meet x x = x := by
  cases x with
  | none => rfl
  | some a => simp [meet]
theorem w64 {n : Int} (h1 : -9223372036854775808 ≤ n) (h2 : n ≤ 9223372036854775807) : IntKind.wrap .i64 n = n := IntWalk.i64_in n ⟨h1, h2⟩
theorem w8 {n : Int} (h1 : 0 ≤ n) (h2 : n ≤ 255) : IntKind.wrap .u8 n = n := IntWalk.u8_in n ⟨h1, h2⟩
theorem wu64 {n : Int} (h1 : 0 ≤ n) (h2 : n ≤ 18446744073709551615) : IntKind.wrap .u64 n = n := IntWalk.u64_in n ⟨h1, h2⟩
theorem ble_t {a b : Nat} (h : a ≤ b) : Nat.ble a b = true := by rw [Nat.ble_eq]; exact h
theorem ok64 {n : Int} (h : okD (.int .i64) n) : -9223372036854775808 ≤ n ∧ n ≤ 9223372036854775807 := by
  have := okD_int.1 h
  simpa [Lit.wf, IntKind.min, IntKind.max, IntKind.bits, IntKind.signed, i_] using this
theorem not_t {p : Prop} [Decidable p] (h : ¬p) : (!decide p) = true := by simp [h]
theorem not_f {p : Prop} [Decidable p] (h : p) : (!decide p) = false := by simp [h]
theorem cond_congr {b c : Bool} (h : b = c) (x y : Option Bool) : cond_ b x y = cond_ c x y := by rw [h]
attribute [local congr] cond_congr
theorem dt {p : Prop} [Decidable p] (h : p) : decide p = true := decide_eq_true h
theorem df {p : Prop} [Decidable p] (h : ¬p) : decide p = false := decide_eq_false h
theorem ieqt {a b : Int} (h : a = b) : (a == b) = true := by simp [h]
theorem ieqf {a b : Int} (h : a ≠ b) : (a == b) = false := by simp [h]
theorem inet {a b : Int} (h : a ≠ b) : (a != b) = true := by simp [h]
theorem inef {a b : Int} (h : a = b) : (a != b) = false := by simp [h]
theorem ble_f {a b : Nat} (h : b < a) : Nat.ble a b = false := by
  cases hb : Nat.ble a b with
  | false => rfl
  | true => rw [Nat.ble_eq] at hb; omega
theorem rounds_ : ∃ R, ROUNDS = R ∧ 1000000000 ≤ R := ⟨ROUNDS, rfl, by unfold ROUNDS; omega⟩
abbrev Rc := Int × Int × Int × Unit
abbrev Dr := Int × Int × Int × Int × Bool × Unit
abbrev Mv := Int × Int × Int × Int × Int × Int × Int × Int × Bool × Unit
abbrev Ls := List Rc × List Dr × Unit
theorem setLast (l : List Dr) (y : Dr) (h : l.length ≠ 0) : l.set (l.length - 1) y = l.take (l.length - 1) ++ [y] := by
  rw [List.set_eq_take_append_cons_drop, if_pos (by omega), List.drop_of_length_le (i := l.length - 1 + 1) (by omega)]
theorem getSnoc (l : List Dr) (y z : Dr) (h : l.length ≠ 0) : (l.take (l.length - 1) ++ [y]).getD (l.length - 1) z = y := by
  rw [List.getD_eq_getElem?_getD, List.getElem?_append_right (by rw [List.length_take]; omega), List.length_take, show l.length - 1 - min (l.length - 1) l.length = 0 by omega]
  rfl
theorem play_ (r : List Rc) (d : List Dr) (mv : Mv) (hr : r.length ≤ 32) (hd : d.length ≤ 300) (k1 : Ls → Bool → Bool → List Rc → List Dr → Option Bool) (k2 : Ls → Bool → Bool → List Dr → List Rc → Option Bool) (k3 : Ls → Bool → Bool → List Rc → List Dr → Option Bool)
    (H : ∀ (r' : List Rc) (d' : List Dr), r'.length ≤ 32 → d'.length ≤ d.length + 1 → k1 (r', d', ()) true true r' d' = some true ∧ k2 (r', d', ()) true true d' r' = some true ∧ k3 (r', d', ()) true true r' d' = some true) :
    law40_play (r, d, ()) mv true r d k1 k2 k3 = some true := by
  obtain ⟨m, a1, a2, a3, b1, b2, b3, b4, b5, ⟨⟩⟩ := mv
  unfold law40_play law40_play.body ref40_Put ref40_Put.body defers_List_Putv1 defers_List_Putv1.body defers_List_nonev1 defers_List_nonev1.body defers_List_Lenv1 defers_List_Lenv1.body defers_row_api_Rec_putv1 defers_row_api_Rec_putv1.body
  unfold defers_List_nonev1 defers_List_nonev1.body
  dsimp only
  have e1 : ((r.length : Int) - 1).toNat = r.length - 1 := by omega
  have e2 : ((d.length : Int) - 1).toNat = d.length - 1 := by omega
  by_cases m0 : m = 0
  · by_cases c : r.length ≥ 32
    · simp (disch := first | omega | (simp only [List.length_append, List.length_cons, List.length_nil, List.length_set, List.length_take, List.length_drop, List.length_replicate]; omega) | fail) only [cond_t, cond_f, dt, df, w64, wu64, w8, ble_t, ble_f, ieqt, ieqf, inet, inef, Bool.not_true, Bool.not_false, Bool.true_and, Bool.and_true, Bool.false_and, Bool.and_false, Bool.not_not, Int.toNat_natCast, List.length_append, List.length_cons, List.length_nil, meet_self, beq_self_eq_true]
      exact (H r d hr (by omega)).1
    · simp (disch := first | omega | (simp only [List.length_append, List.length_cons, List.length_nil, List.length_set, List.length_take, List.length_drop, List.length_replicate]; omega) | fail) only [cond_t, cond_f, dt, df, w64, wu64, w8, ble_t, ble_f, ieqt, ieqf, inet, inef, Bool.not_true, Bool.not_false, Bool.true_and, Bool.and_true, Bool.false_and, Bool.and_false, Bool.not_not, Int.toNat_natCast, List.length_append, List.length_cons, List.length_nil, meet_self, beq_self_eq_true]
      exact (H (r ++ [(a1, a2, a3, ())]) d (by simp; omega) (by omega)).2.1
  · by_cases m1 : m = 1
    · unfold ref40_Takev1 ref40_Takev1.body defers_List_Take defers_List_Take.body defers_row_api_Rec_lastv1 defers_row_api_Rec_lastv1.body defers_row_api_Rec_drop defers_row_api_Rec_drop.body defers_List_nonev1 defers_List_nonev1.body
      dsimp only
      by_cases c : r.length = 0
      · simp (disch := first | omega | (simp only [List.length_append, List.length_cons, List.length_nil, List.length_set, List.length_take, List.length_drop, List.length_replicate]; omega) | fail) only [cond_t, cond_f, dt, df, w64, wu64, w8, ble_t, ble_f, ieqt, ieqf, inet, inef, Bool.not_true, Bool.not_false, Bool.true_and, Bool.and_true, Bool.false_and, Bool.and_false, Bool.not_not, Int.toNat_natCast, List.length_append, List.length_cons, List.length_nil, meet_self, beq_self_eq_true]
        exact (H r d hr (by omega)).1
      · by_cases c2 : (r.getD (r.length - 1) ((0 : Int), ((0 : Int), ((0 : Int), ())))).1 = a1
        · simp (disch := first | omega | (simp only [List.length_append, List.length_cons, List.length_nil, List.length_set, List.length_take, List.length_drop, List.length_replicate]; omega) | fail) only [cond_t, cond_f, dt, df, w64, wu64, w8, ble_t, ble_f, ieqt, ieqf, inet, inef, Bool.not_true, Bool.not_false, Bool.true_and, Bool.and_true, Bool.false_and, Bool.and_false, Bool.not_not, Int.toNat_natCast, List.length_append, List.length_cons, List.length_nil, meet_self, beq_self_eq_true, e1, Int.sub_zero, List.drop_zero]
          exact (H (r.take (r.length - 1)) d (by rw [List.length_take]; omega) (by omega)).2.1
        · simp (disch := first | omega | (simp only [List.length_append, List.length_cons, List.length_nil, List.length_set, List.length_take, List.length_drop, List.length_replicate]; omega) | fail) only [cond_t, cond_f, dt, df, w64, wu64, w8, ble_t, ble_f, ieqt, ieqf, inet, inef, Bool.not_true, Bool.not_false, Bool.true_and, Bool.and_true, Bool.false_and, Bool.and_false, Bool.not_not, Int.toNat_natCast, List.length_append, List.length_cons, List.length_nil, meet_self, beq_self_eq_true, e1, Int.sub_zero, List.drop_zero]
          exact (H r d hr (by omega)).1
    · by_cases m2 : m = 2
      · unfold ref40_Drivev1 ref40_Drivev1.body defers_List_Drivev1 defers_List_Drivev1.body defers_row_api_Driver_putv1 defers_row_api_Driver_putv1.body defers_List_nonev1 defers_List_nonev1.body
        dsimp only
        simp (disch := first | omega | (simp only [List.length_append, List.length_cons, List.length_nil, List.length_set, List.length_take, List.length_drop, List.length_replicate]; omega) | fail) only [cond_t, cond_f, dt, df, w64, wu64, w8, ble_t, ble_f, ieqt, ieqf, inet, inef, Bool.not_true, Bool.not_false, Bool.true_and, Bool.and_true, Bool.false_and, Bool.and_false, Bool.not_not, Int.toNat_natCast, List.length_append, List.length_cons, List.length_nil, meet_self, beq_self_eq_true]
        exact (H r (d ++ [(b1, b2, b3, b4, b5, ())]) (by omega) (by simp)).2.2
      · unfold ref40_Recover ref40_Recover.body ref40_Topv1 ref40_Topv1.body defers_List_Topv1 defers_List_Topv1.body defers_List_Depthv1 defers_List_Depthv1.body defers_row_api_Driver_lastv1 defers_row_api_Driver_lastv1.body defers_List_nonev1 defers_List_nonev1.body
        dsimp only
        by_cases m3 : m = 3
        · by_cases c : d.length = 0
          · simp (disch := first | omega | (simp only [List.length_append, List.length_cons, List.length_nil, List.length_set, List.length_take, List.length_drop, List.length_replicate]; omega) | fail) only [cond_t, cond_f, dt, df, w64, wu64, w8, ble_t, ble_f, ieqt, ieqf, inet, inef, Bool.not_true, Bool.not_false, Bool.true_and, Bool.and_true, Bool.false_and, Bool.and_false, Bool.not_not, Int.toNat_natCast, List.length_append, List.length_cons, List.length_nil, meet_self, beq_self_eq_true]
            exact (H r d hr (by omega)).1
          · simp (disch := first | omega | (simp only [List.length_append, List.length_cons, List.length_nil, List.length_set, List.length_take, List.length_drop, List.length_replicate]; omega) | fail) only [cond_t, cond_f, dt, df, w64, wu64, w8, ble_t, ble_f, ieqt, ieqf, inet, inef, Bool.not_true, Bool.not_false, Bool.true_and, Bool.and_true, Bool.false_and, Bool.and_false, Bool.not_not, Int.toNat_natCast, List.length_append, List.length_cons, List.length_nil, meet_self, beq_self_eq_true]
            exact (H r d hr (by omega)).1
        · by_cases m4 : m = 4
          · unfold defers_List_Recoverv1 defers_List_Recoverv1.body defers_List_Depthv1 defers_List_Depthv1.body defers_row_api_Driver_lastv1 defers_row_api_Driver_lastv1.body ref40_Drivev1 ref40_Drivev1.body defers_List_nonev1 defers_List_nonev1.body
            dsimp only
            by_cases c : d.length = 0
            · simp (disch := first | omega | (simp only [List.length_append, List.length_cons, List.length_nil, List.length_set, List.length_take, List.length_drop, List.length_replicate]; omega) | fail) only [cond_t, cond_f, dt, df, w64, wu64, w8, ble_t, ble_f, ieqt, ieqf, inet, inef, Bool.not_true, Bool.not_false, Bool.true_and, Bool.and_true, Bool.false_and, Bool.and_false, Bool.not_not, Int.toNat_natCast, List.length_append, List.length_cons, List.length_nil, meet_self, beq_self_eq_true]
              exact (H r d hr (by omega)).1
            · simp (disch := first | omega | (simp only [List.length_append, List.length_cons, List.length_nil, List.length_set, List.length_take, List.length_drop, List.length_replicate]; omega) | fail) only [cond_t, cond_f, dt, df, w64, wu64, w8, ble_t, ble_f, ieqt, ieqf, inet, inef, Bool.not_true, Bool.not_false, Bool.true_and, Bool.and_true, Bool.false_and, Bool.and_false, Bool.not_not, Int.toNat_natCast, List.length_append, List.length_cons, List.length_nil, meet_self, beq_self_eq_true, e2, Int.sub_zero, List.drop_zero]
              generalize d.getD (d.length - 1) ((0 : Int), ((0 : Int), ((0 : Int), ((0 : Int), (false, ()))))) = x
              by_cases c2 : x.2.2.1 = 2
              · by_cases c3 : x.2.2.2.2.1 = true
                · simp (disch := first | omega | (simp only [List.length_append, List.length_cons, List.length_nil, List.length_set, List.length_take, List.length_drop, List.length_replicate]; omega) | fail) only [cond_t, cond_f, dt, df, w64, wu64, w8, ble_t, ble_f, ieqt, ieqf, inet, inef, Bool.not_true, Bool.not_false, Bool.true_and, Bool.and_true, Bool.false_and, Bool.and_false, Bool.not_not, Int.toNat_natCast, List.length_append, List.length_cons, List.length_nil, meet_self, c3, beq_self_eq_true]
                  exact (H r d hr (by omega)).1
                · rw [Bool.not_eq_true] at c3
                  simp (disch := first | omega | (simp only [List.length_append, List.length_cons, List.length_nil, List.length_set, List.length_take, List.length_drop, List.length_replicate]; omega) | fail) only [cond_t, cond_f, dt, df, w64, wu64, w8, ble_t, ble_f, ieqt, ieqf, inet, inef, Bool.not_true, Bool.not_false, Bool.true_and, Bool.and_true, Bool.false_and, Bool.and_false, Bool.not_not, Int.toNat_natCast, List.length_append, List.length_cons, List.length_nil, meet_self, c3, beq_self_eq_true, setLast _ _ c, getSnoc _ _ _ c]
                  exact (H r (d.take (d.length - 1) ++ [(x.1, x.2.1, x.2.2.1, x.2.2.2.1, true, ())]) hr (by simp)).1
              · simp (disch := first | omega | (simp only [List.length_append, List.length_cons, List.length_nil, List.length_set, List.length_take, List.length_drop, List.length_replicate]; omega) | fail) only [cond_t, cond_f, dt, df, w64, wu64, w8, ble_t, ble_f, ieqt, ieqf, inet, inef, Bool.not_true, Bool.not_false, Bool.true_and, Bool.and_true, Bool.false_and, Bool.and_false, Bool.not_not, Int.toNat_natCast, List.length_append, List.length_cons, List.length_nil, meet_self, beq_self_eq_true]
                exact (H r d hr (by omega)).1
          · unfold ref40_Donev1 ref40_Donev1.body ref40_Topv1 ref40_Topv1.body defers_List_Done defers_List_Done.body defers_List_Topv1 defers_List_Topv1.body defers_List_Depthv1 defers_List_Depthv1.body defers_row_api_Driver_lastv1 defers_row_api_Driver_lastv1.body defers_row_api_Driver_dropv1 defers_row_api_Driver_dropv1.body defers_List_nonev1 defers_List_nonev1.body
            dsimp only
            by_cases c : d.length = 0
            · simp (disch := first | omega | (simp only [List.length_append, List.length_cons, List.length_nil, List.length_set, List.length_take, List.length_drop, List.length_replicate]; omega) | fail) only [cond_t, cond_f, dt, df, w64, wu64, w8, ble_t, ble_f, ieqt, ieqf, inet, inef, Bool.not_true, Bool.not_false, Bool.true_and, Bool.and_true, Bool.false_and, Bool.and_false, Bool.not_not, Int.toNat_natCast, List.length_append, List.length_cons, List.length_nil, meet_self, beq_self_eq_true]
              exact (H r d hr (by omega)).1
            · simp (disch := first | omega | (simp only [List.length_append, List.length_cons, List.length_nil, List.length_set, List.length_take, List.length_drop, List.length_replicate]; omega) | fail) only [cond_t, cond_f, dt, df, w64, wu64, w8, ble_t, ble_f, ieqt, ieqf, inet, inef, Bool.not_true, Bool.not_false, Bool.true_and, Bool.and_true, Bool.false_and, Bool.and_false, Bool.not_not, Int.toNat_natCast, List.length_append, List.length_cons, List.length_nil, meet_self, beq_self_eq_true, e2, Int.sub_zero, List.drop_zero]
              exact (H r (d.take (d.length - 1)) hr (by rw [List.length_take]; omega)).2.2
theorem playL (ms : List Mv) (hm : ms.length ≤ 200) (k1 : Bool → Option Bool) : ∀ (n i : Nat) (r : List Rc) (d : List Dr), i ≤ ms.length → r.length ≤ 32 → d.length ≤ i → ms.length - i < n → law40_DefersPlay_L0 n ms (i : Int) true r d (r, d, ()) k1 (some true) = some true
  | 0, i, _, _, _, _, _, h => by omega
  | n + 1, i, r, d, h1, hr, hd, h2 => by
    rw [law40_DefersPlay_L0]
    unfold law40_DefersPlay_L0.body
    by_cases h : i < ms.length
    · simp (disch := first | omega | (simp only [List.length_append, List.length_cons, List.length_nil, List.length_set, List.length_take, List.length_drop, List.length_replicate]; omega) | fail) only [cond_t, cond_f, dt, df, w64, wu64, w8, ble_t, ble_f, ieqt, ieqf, inet, inef, Bool.not_true, Bool.not_false, Bool.true_and, Bool.and_true, Bool.false_and, Bool.and_false, Bool.not_not, Int.toNat_natCast, List.length_append, List.length_cons, List.length_nil, meet_self]
      refine play_ r d _ hr (by omega) _ _ _ fun r' d' hr' hd' => ?_
      have := playL ms hm k1 n (i + 1) r' d' (by omega) hr' (by omega) (by omega)
      unfold defers_List_Lenv1 defers_List_Lenv1.body defers_List_Depthv1 defers_List_Depthv1.body defers_List_nonev1 defers_List_nonev1.body
      dsimp only
      simp (disch := first | omega | (simp only [List.length_append, List.length_cons, List.length_nil, List.length_set, List.length_take, List.length_drop, List.length_replicate]; omega) | fail) only [cond_t, cond_f, dt, df, w64, wu64, w8, ble_t, ble_f, ieqt, ieqf, inet, inef, Bool.not_true, Bool.not_false, Bool.true_and, Bool.and_true, Bool.false_and, Bool.and_false, Bool.not_not, Int.toNat_natCast, List.length_append, List.length_cons, List.length_nil, meet_self]
      exact ⟨this, this, this⟩
    · simp (disch := first | omega | (simp only [List.length_append, List.length_cons, List.length_nil, List.length_set, List.length_take, List.length_drop, List.length_replicate]; omega) | fail) only [cond_t, cond_f, dt, df, w64, wu64, w8, ble_t, ble_f, ieqt, ieqf, inet, inef, Bool.not_true, Bool.not_false, Bool.true_and, Bool.and_true, Bool.false_and, Bool.and_false, Bool.not_not, Int.toNat_natCast, List.length_append, List.length_cons, List.length_nil, meet_self]
theorem holds (ms : List Mv) (h0 : okD (.sl 37 (.st [.int .i64, .int .i64, .int .i64, .int .i64, .int .i64, .int .i64, .int .i64, .int .i64, .bool])) ms) : law40_DefersPlay ms (fun y => some y) = some true := by
  unfold law40_DefersPlay law40_DefersPlay.body law40_known defers_New defers_New.body
  obtain ⟨R, hR, hR2⟩ := rounds_
  rw [hR]
  dsimp only
  by_cases c1 : (ms.length : Int) > 200
  · simp (disch := first | omega | (simp only [List.length_append, List.length_cons, List.length_nil, List.length_set, List.length_take, List.length_drop, List.length_replicate]; omega) | fail) only [cond_t, cond_f, dt, df, w64, wu64, w8, ble_t, ble_f, ieqt, ieqf, inet, inef, Bool.not_true, Bool.not_false, Bool.true_and, Bool.and_true, Bool.false_and, Bool.and_false, Bool.not_not, Int.toNat_natCast, List.length_append, List.length_cons, List.length_nil, meet_self]
  · simp (disch := first | omega | (simp only [List.length_append, List.length_cons, List.length_nil, List.length_set, List.length_take, List.length_drop, List.length_replicate]; omega) | fail) only [cond_t, cond_f, dt, df, w64, wu64, w8, ble_t, ble_f, ieqt, ieqf, inet, inef, Bool.not_true, Bool.not_false, Bool.true_and, Bool.and_true, Bool.false_and, Bool.and_false, Bool.not_not, Int.toNat_natCast, List.length_append, List.length_cons, List.length_nil, meet_self]
    exact playL ms (by omega) _ R 0 [] [] (by omega) (by simp) (by simp) (by omega)

end Go.Proofs.Ytlmggajbalnpjaa.defersPlay
