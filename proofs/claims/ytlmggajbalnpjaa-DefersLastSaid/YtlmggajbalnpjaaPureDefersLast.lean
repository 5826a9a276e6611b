/- What the plain functions answer: the law, without program or memory. -/
import Derived.Test.YtlmggajbalnpjaaMG
import Derived.IntWalk
namespace Go.Proofs.Ytlmggajbalnpjaa.defersLast
open Go.AX Go.Proofs.Ytlmggajbalnpjaa.g
set_option linter.unusedVariables false
set_option linter.unusedSimpArgs false
theorem cond_ite (b : Bool) (x y : Option Bool) : cond_ b x y = if b = true then x else y := by cases b <;> rfl
@[simp] theorem cond_t (x y : Option Bool) : cond_ true x y = x := rfl
@[simp] theorem cond_f (x y : Option Bool) : cond_ false x y = y := rfl
theorem cond_pos {b : Bool} {x y : Option Bool} (h : b = true) : cond_ b x y = x := by rw [h]; rfl
theorem cond_neg {b : Bool} {x y : Option Bool} (h : b = false) : cond_ b x y = y := by rw [h]; rfl
@[simp] theorem meet_self (x : Option Bool) : meet x x = x := by
  cases x with
  | none => rfl
  | some a => simp [meet]
theorem w64 {n : Int} (h1 : -9223372036854775808 ≤ n) (h2 : n ≤ 9223372036854775807) : IntKind.wrap .i64 n = n := IntWalk.i64_in n ⟨h1, h2⟩
theorem w8 {n : Int} (h1 : 0 ≤ n) (h2 : n ≤ 255) : IntKind.wrap .u8 n = n := IntWalk.u8_in n ⟨h1, h2⟩
theorem wu64 {n : Int} (h1 : 0 ≤ n) (h2 : n ≤ 18446744073709551615) : IntKind.wrap .u64 n = n := IntWalk.u64_in n ⟨h1, h2⟩
theorem ble_t {a b : Nat} (h : a ≤ b) : Nat.ble a b = true := by rw [Nat.ble_eq]; exact h
theorem ok64 {n : Int} (h : okD (.int .i64) n) : -9223372036854775808 ≤ n ∧ n ≤ 9223372036854775807 := by
  have := okD_int.1 h
  simpa [Lit.wf, IntKind.min, IntKind.max, IntKind.bits, IntKind.signed, i_] using this
theorem not_t {p : Prop} [Decidable p] (h : ¬p) : (!decide p) = true := by simp [h]
theorem not_f {p : Prop} [Decidable p] (h : p) : (!decide p) = false := by simp [h]
theorem cond_congr {b c : Bool} (h : b = c) (x y : Option Bool) : cond_ b x y = cond_ c x y := by rw [h]
attribute [local congr] cond_congr
theorem dt {p : Prop} [Decidable p] (h : p) : decide p = true := decide_eq_true h
theorem df {p : Prop} [Decidable p] (h : ¬p) : decide p = false := decide_eq_false h
theorem ieqt {a b : Int} (h : a = b) : (a == b) = true := by simp [h]
theorem ieqf {a b : Int} (h : a ≠ b) : (a == b) = false := by simp [h]
theorem inet {a b : Int} (h : a ≠ b) : (a != b) = true := by simp [h]
theorem inef {a b : Int} (h : a = b) : (a != b) = false := by simp [h]
theorem ble_f {a b : Nat} (h : b < a) : Nat.ble a b = false := by
  cases hb : Nat.ble a b with
  | false => rfl
  | true => rw [Nat.ble_eq] at hb; omega
theorem rounds_ : ∃ R, ROUNDS = R ∧ 1000000000 ≤ R := ⟨ROUNDS, rfl, by unfold ROUNDS; omega⟩
abbrev Rc := Int × Int × Int × Unit
abbrev Dr := Int × Int × Int × Int × Bool × Unit
def recsS (id : Int) (l : List Int) : List Rc := l.map fun x => (id, x, 0, ())
theorem recs_snoc (id : Int) (l : List Int) (i : Nat) (h : i < l.length) : recsS id (l.take i) ++ [(id, l.getD i 0, 0, ())] = recsS id (l.take (i + 1)) := by
  unfold recsS
  rw [List.take_add_one, List.map_append, List.getElem?_eq_getElem h, List.getD_eq_getElem?_getD, List.getElem?_eq_getElem h]
  rfl
theorem recs_len (id : Int) (l : List Int) : (recsS id l).length = l.length := by unfold recsS; rw [List.length_map]
theorem putL (l : List Int) (hl : l.length ≤ 32) (id o : Int) (k1 : Bool → Option Bool) (k2 : List Int → Int → Int → Bool → List Rc → Option Bool) : ∀ (n i : Nat), i ≤ l.length → l.length - i < n →
    law40_DefersLast_L0 n l id o (i : Int) true (recsS id (l.take i)) k1 k2 = k2 l id o true (recsS id l)
  | 0, i, _, h => by omega
  | n + 1, i, h1, h2 => by
    rw [law40_DefersLast_L0]
    unfold law40_DefersLast_L0.body
    by_cases h : i < l.length
    · unfold defers_List_Putv2 defers_List_Putv2.body defers_List_nonev2 defers_List_nonev2.body defers_List_Lenv2 defers_List_Lenv2.body defers_List_nonev2 defers_List_nonev2.body defers_row_api_Rec_putv2 defers_row_api_Rec_putv2.body
      dsimp only
      have hr := recs_len id (l.take i)
      rw [List.length_take] at hr
      simp (disch := first | omega | (simp only [List.length_append, List.length_cons, List.length_nil, List.length_set, List.length_take, List.length_drop, List.length_replicate]; omega) | fail) only [cond_t, cond_f, dt, df, w64, wu64, w8, ble_t, ble_f, ieqt, ieqf, inet, inef, Bool.not_true, Bool.not_false, Bool.true_and, Bool.and_true, Bool.false_and, Bool.and_false, Bool.not_not, Int.toNat_natCast, List.length_append, List.length_cons, List.length_nil, meet_self, recs_snoc id l i h]
      exact putL l hl id o k1 k2 n (i + 1) (by omega) (by omega)
    · simp (disch := first | omega | (simp only [List.length_append, List.length_cons, List.length_nil, List.length_set, List.length_take, List.length_drop, List.length_replicate]; omega) | fail) only [cond_t, cond_f, dt, df, w64, wu64, w8, ble_t, ble_f, ieqt, ieqf, inet, inef, Bool.not_true, Bool.not_false, Bool.true_and, Bool.and_true, Bool.false_and, Bool.and_false, Bool.not_not, Int.toNat_natCast, List.length_append, List.length_cons, List.length_nil, meet_self]
      rw [List.take_of_length_le (by omega)]
theorem recs_get (id : Int) (l : List Int) (i : Nat) (h : i < l.length) : (recsS id (l.take (i + 1))).getD i ((0 : Int), ((0 : Int), ((0 : Int), ()))) = (id, l.getD i 0, 0, ()) := by
  rw [← recs_snoc id l i h, List.getD_eq_getElem?_getD, List.getElem?_append_right (by rw [recs_len, List.length_take]; omega), recs_len, List.length_take]
  rw [show i - min i l.length = 0 by omega]
  rfl
theorem recs_cut (id : Int) (l : List Int) (i : Nat) (h : i < l.length) : (recsS id (l.take (i + 1))).take i = recsS id (l.take i) := by
  rw [← recs_snoc id l i h, List.take_left' (by rw [recs_len, List.length_take]; omega)]
theorem takeL (l : List Int) (hl : l.length ≤ 32) (id o : Int) (ho : id ≠ o) (k1 : Bool → Option Bool) (k2 : Bool → List Rc → Option Bool) : ∀ (n i : Nat), i ≤ l.length → i < n →
    law40_DefersLast_L2 n l id o ((i : Int) - 1) true (recsS id (l.take i)) k1 k2 = k2 true []
  | 0, i, _, h => by omega
  | n + 1, 0, h1, h2 => by
    rw [law40_DefersLast_L2]
    unfold law40_DefersLast_L2.body
    simp (disch := first | omega | (simp only [List.length_append, List.length_cons, List.length_nil, List.length_set, List.length_take, List.length_drop, List.length_replicate]; omega) | fail) only [cond_t, cond_f, dt, df, w64, wu64, w8, ble_t, ble_f, ieqt, ieqf, inet, inef, Bool.not_true, Bool.not_false, Bool.true_and, Bool.and_true, Bool.false_and, Bool.and_false, Bool.not_not, Int.toNat_natCast, List.length_append, List.length_cons, List.length_nil, meet_self]
    rfl
  | n + 1, i + 1, h1, h2 => by
    rw [law40_DefersLast_L2]
    unfold law40_DefersLast_L2.body
    unfold defers_List_Takev1 defers_List_Takev1.body defers_List_nonev2 defers_List_nonev2.body defers_row_api_Rec_lastv2 defers_row_api_Rec_lastv2.body defers_row_api_Rec_dropv1 defers_row_api_Rec_dropv1.body
    dsimp only
    have hr := recs_len id (l.take (i + 1))
    rw [List.length_take] at hr
    have e1 : (((recsS id (l.take (i + 1))).length : Int) - 1).toNat = i := by omega
    have e2 : (((i + 1 : Nat) : Int) - 1).toNat = i := by omega
    have e3 : ((i + 1 : Nat) : Int) - 1 - 1 = (i : Int) - 1 := by omega
    simp (disch := first | omega | (simp only [List.length_append, List.length_cons, List.length_nil, List.length_set, List.length_take, List.length_drop, List.length_replicate]; omega) | fail) only [cond_t, cond_f, dt, df, w64, wu64, w8, ble_t, ble_f, ieqt, ieqf, inet, inef, Bool.not_true, Bool.not_false, Bool.true_and, Bool.and_true, Bool.false_and, Bool.and_false, Bool.not_not, Int.toNat_natCast, List.length_append, List.length_cons, List.length_nil, meet_self, e1, e2, e3, Int.sub_zero, List.drop_zero, recs_get id l i h1, recs_cut id l i h1]
    exact takeL l hl id o ho k1 k2 n i (by omega) (by omega)
theorem holds (l : List Int) (id o : Int) (h0 : okD (.sl 3 (.int .i64)) l) (h1 : okD (.int .i64) id) (h2 : okD (.int .i64) o) : law40_DefersLast l id o (fun y => some y) = some true := by
  unfold law40_DefersLast law40_DefersLast.body law40_known defers_New defers_New.body
  obtain ⟨R, hR, hR2⟩ := rounds_
  rw [hR]
  dsimp only
  by_cases c1 : (l.length : Int) > 32
  · simp (disch := first | omega | (simp only [List.length_append, List.length_cons, List.length_nil, List.length_set, List.length_take, List.length_drop, List.length_replicate]; omega) | fail) only [cond_t, cond_f, dt, df, w64, wu64, w8, ble_t, ble_f, ieqt, ieqf, inet, inef, Bool.not_true, Bool.not_false, Bool.true_and, Bool.and_true, Bool.false_and, Bool.and_false, Bool.not_not, Int.toNat_natCast, List.length_append, List.length_cons, List.length_nil, meet_self]
  · by_cases c2 : id = o
    · simp (disch := first | omega | (simp only [List.length_append, List.length_cons, List.length_nil, List.length_set, List.length_take, List.length_drop, List.length_replicate]; omega) | fail) only [cond_t, cond_f, dt, df, w64, wu64, w8, ble_t, ble_f, ieqt, ieqf, inet, inef, Bool.not_true, Bool.not_false, Bool.true_and, Bool.and_true, Bool.false_and, Bool.and_false, Bool.not_not, Int.toNat_natCast, List.length_append, List.length_cons, List.length_nil, meet_self]
    · simp (disch := first | omega | (simp only [List.length_append, List.length_cons, List.length_nil, List.length_set, List.length_take, List.length_drop, List.length_replicate]; omega) | fail) only [cond_t, cond_f, dt, df, w64, wu64, w8, ble_t, ble_f, ieqt, ieqf, inet, inef, Bool.not_true, Bool.not_false, Bool.true_and, Bool.and_true, Bool.false_and, Bool.and_false, Bool.not_not, Int.toNat_natCast, List.length_append, List.length_cons, List.length_nil, meet_self]
      rw [show (0 : Int) = ((0 : Nat) : Int) from rfl, show ([] : List Rc) = recsS id (l.take 0) from rfl, putL l (by omega) id o _ _ R 0 (by omega) (by omega)]
      simp (disch := first | omega | (simp only [List.length_append, List.length_cons, List.length_nil, List.length_set, List.length_take, List.length_drop, List.length_replicate]; omega) | fail) only [cond_t, cond_f, dt, df, w64, wu64, w8, ble_t, ble_f, ieqt, ieqf, inet, inef, Bool.not_true, Bool.not_false, Bool.true_and, Bool.and_true, Bool.false_and, Bool.and_false, Bool.not_not, Int.toNat_natCast, List.length_append, List.length_cons, List.length_nil, meet_self]
      have := takeL l (by omega) id o c2 (fun b => some b) (fun b742 ts743 => defers_List_Lenv2 b742 ts743 fun n744 b745 ts746 => cond_ (n744 == 0) (some true) (some false)) R l.length (by omega) (by omega)
      rw [List.take_length] at this
      refine this.trans ?_
      unfold defers_List_Lenv2 defers_List_Lenv2.body defers_List_nonev2 defers_List_nonev2.body
      rfl

end Go.Proofs.Ytlmggajbalnpjaa.defersLast
