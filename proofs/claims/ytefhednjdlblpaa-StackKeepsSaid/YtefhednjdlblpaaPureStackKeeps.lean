/- What the plain functions answer: the law, without program or memory. -/
import Derived.Test.YtefhednjdlblpaaMK
import Derived.IntWalk
import Derived.Laws.Strings
namespace Go.Proofs.Ytefhednjdlblpaa.stackKeeps
open Go.AX Go.Proofs.Ytefhednjdlblpaa.k
set_option linter.unusedVariables false
set_option linter.unusedSimpArgs false
theorem cond_ite (b : Bool) (x y : Option Bool) : cond_ b x y = if b = true then x else y := by cases b <;> rfl
@[simp] theorem cond_t (x y : Option Bool) : cond_ true x y = x := (cond_ite true x y).trans (if_pos rfl)
@[simp] theorem cond_f (x y : Option Bool) : cond_ false x y = y := (cond_ite false x y).trans (if_neg (by decide))
theorem cond_pos {b : Bool} {x y : Option Bool} (h : b = true) : cond_ b x y = x := by rw [h]; rfl
theorem cond_neg {b : Bool} {x y : Option Bool} (h : b = false) : cond_ b x y = y := by rw [h]; rfl
@[simp] theorem meet_self (x : Option Bool) : meet x x = x := by
  cases x with
  | none => rfl
  | some a => simp [meet]
theorem w64 {n : Int} (h1 : -9223372036854775808 ≤ n) (h2 : n ≤ 9223372036854775807) : IntKind.wrap .i64 n = n := IntWalk.i64_in n ⟨h1, h2⟩
theorem w8 {n : Int} (h1 : 0 ≤ n) (h2 : n ≤ 255) : IntKind.wrap .u8 n = n := IntWalk.u8_in n ⟨h1, h2⟩
theorem wu64 {n : Int} (h1 : 0 ≤ n) (h2 : n ≤ 18446744073709551615) : IntKind.wrap .u64 n = n := IntWalk.u64_in n ⟨h1, h2⟩
theorem ble_t {a b : Nat} (h : a ≤ b) : Nat.ble a b = true := by rw [Nat.ble_eq]; exact h
theorem ok64 {n : Int} (h : okD (.int .i64) n) : -9223372036854775808 ≤ n ∧ n ≤ 9223372036854775807 := by
  have := okD_int.1 h
  simpa [Lit.wf, IntKind.min, IntKind.max, IntKind.bits, IntKind.signed, i_] using this
theorem not_t {p : Prop} [Decidable p] (h : ¬p) : (!decide p) = true := by simp [h]
theorem not_f {p : Prop} [Decidable p] (h : p) : (!decide p) = false := by simp [h]
theorem cond_congr {b c : Bool} (h : b = c) (x y : Option Bool) : cond_ b x y = cond_ c x y := by rw [h]
attribute [local congr] cond_congr
theorem dt {p : Prop} [Decidable p] (h : p) : decide p = true := decide_eq_true h
theorem df {p : Prop} [Decidable p] (h : ¬p) : decide p = false := decide_eq_false h
theorem ieqt {a b : Int} (h : a = b) : (a == b) = true := by simp [h]
theorem ieqf {a b : Int} (h : a ≠ b) : (a == b) = false := by simp [h]
theorem inet {a b : Int} (h : a ≠ b) : (a != b) = true := by simp [h]
theorem inef {a b : Int} (h : a = b) : (a != b) = false := by simp [h]
theorem ble_f {a b : Nat} (h : b < a) : Nat.ble a b = false := by
  cases hb : Nat.ble a b with
  | false => rfl
  | true => rw [Nat.ble_eq] at hb; omega
theorem rounds_ : ∃ R, ROUNDS = R ∧ 1000000000 ≤ R := ⟨ROUNDS, rfl, by unfold ROUNDS; omega⟩
theorem dTrue {i : Decidable True} : decide True = true := dt trivial
theorem dFalse {i : Decidable False} : decide False = false := df fun h => h
theorem if_iff {α : Type} {p q : Prop} [Decidable p] [Decidable q] (h : p ↔ q) (a b : α) : (if p then a else b) = (if q then a else b) := by
  by_cases hp : p
  · rw [if_pos hp, if_pos (h.1 hp)]
  · rw [if_neg hp, if_neg (fun g => hp (h.2 g))]
variable {lo g hi sp al lim low : Int} {ns : List Int}
abbrev KS := Int → Int → Int → Int → Int → Int → Int → Bool → List Int → Option Bool
theorem live_ (k : Bool → KS) : stack_Stack_live lo g hi sp al lim low true ns k = k true lo g hi sp al lim low true ns := by
  unfold stack_Stack_live stack_Stack_live.body
  rfl
theorem SP_ (k : Int → KS) : stack_Stack_SP lo g hi sp al lim low true ns k = k sp lo g hi sp al lim low true ns := by
  unfold stack_Stack_SP stack_Stack_SP.body
  rw [live_]
  simp (disch := first | omega | (simp only [List.length_append, List.length_cons, List.length_nil, List.length_set, List.length_take, List.length_drop, List.length_replicate]; omega) | fail) only [cond_t, cond_f, dt, df, w64, wu64, w8, ble_t, ble_f, ieqt, ieqf, inet, inef, Bool.not_true, Bool.not_false, Bool.true_and, Bool.and_true, Bool.false_and, Bool.and_false, Bool.not_not, dTrue, dFalse, Int.toNat_natCast, List.length_append, List.length_cons, List.length_nil, meet_self]
theorem Seg_ (k : Int × Int × Int × Unit → KS) : stack_Stack_Seg lo g hi sp al lim low true ns k = k (lo, g, hi, ()) lo g hi sp al lim low true ns := by
  unfold stack_Stack_Seg stack_Stack_Seg.body
  rw [live_]
  simp (disch := first | omega | (simp only [List.length_append, List.length_cons, List.length_nil, List.length_set, List.length_take, List.length_drop, List.length_replicate]; omega) | fail) only [cond_t, cond_f, dt, df, w64, wu64, w8, ble_t, ble_f, ieqt, ieqf, inet, inef, Bool.not_true, Bool.not_false, Bool.true_and, Bool.and_true, Bool.false_and, Bool.and_false, Bool.not_not, dTrue, dFalse, Int.toNat_natCast, List.length_append, List.length_cons, List.length_nil, meet_self]
theorem Id_ (h : 0 ≤ sp ∧ sp ≤ 5000000 ∧ 0 ≤ hi ∧ hi ≤ 5000000) (k : Int → KS) : stack_Stack_Id lo g hi sp al lim low true ns k = k (hi - sp) lo g hi sp al lim low true ns := by
  unfold stack_Stack_Id stack_Stack_Id.body
  rw [Seg_, SP_]
  simp (disch := first | omega | (simp only [List.length_append, List.length_cons, List.length_nil, List.length_set, List.length_take, List.length_drop, List.length_replicate]; omega) | fail) only [cond_t, cond_f, dt, df, w64, wu64, w8, ble_t, ble_f, ieqt, ieqf, inet, inef, Bool.not_true, Bool.not_false, Bool.true_and, Bool.and_true, Bool.false_and, Bool.and_false, Bool.not_not, dTrue, dFalse, Int.toNat_natCast, List.length_append, List.length_cons, List.length_nil, meet_self]
theorem Size_ (k : Int → Bool → List Int → Option Bool) : memory_Memory_Size true ns k = k (ns.length : Int) true ns := by
  unfold memory_Memory_Size memory_Memory_Size.body
  simp (disch := first | omega | (simp only [List.length_append, List.length_cons, List.length_nil, List.length_set, List.length_take, List.length_drop, List.length_replicate]; omega) | fail) only [cond_t, cond_f, dt, df, w64, wu64, w8, ble_t, ble_f, ieqt, ieqf, inet, inef, Bool.not_true, Bool.not_false, Bool.true_and, Bool.and_true, Bool.false_and, Bool.and_false, Bool.not_not, dTrue, dFalse, Int.toNat_natCast, List.length_append, List.length_cons, List.length_nil, meet_self]
theorem Store_ {a : Int} (h : 0 ≤ a ∧ a < (ns.length : Int)) (n : Int) (k : Bool → Bool → List Int → Option Bool) : memory_Memory_Store a n true ns k = k true true (ns.set a.toNat n) := by
  unfold memory_Memory_Store memory_Memory_Store.body memory_Memory_at memory_Memory_at.body
  rw [Size_]
  simp (disch := first | omega | (simp only [List.length_append, List.length_cons, List.length_nil, List.length_set, List.length_take, List.length_drop, List.length_replicate]; omega) | fail) only [cond_t, cond_f, dt, df, w64, wu64, w8, ble_t, ble_f, ieqt, ieqf, inet, inef, Bool.not_true, Bool.not_false, Bool.true_and, Bool.and_true, Bool.false_and, Bool.and_false, Bool.not_not, dTrue, dFalse, Int.toNat_natCast, List.length_append, List.length_cons, List.length_nil, meet_self]
  unfold memory_Memory_Storefn1 memory_Memory_Storefn1.body
  rfl
theorem Load_ {a : Int} (h : 0 ≤ a ∧ a < (ns.length : Int)) (k : Int → Bool → Bool → List Int → Option Bool) : memory_Memory_Load a true ns k = k (ns.getD a.toNat 0) true true ns := by
  unfold memory_Memory_Load memory_Memory_Load.body memory_Memory_atv1 memory_Memory_atv1.body
  rw [Size_]
  simp (disch := first | omega | (simp only [List.length_append, List.length_cons, List.length_nil, List.length_set, List.length_take, List.length_drop, List.length_replicate]; omega) | fail) only [cond_t, cond_f, dt, df, w64, wu64, w8, ble_t, ble_f, ieqt, ieqf, inet, inef, Bool.not_true, Bool.not_false, Bool.true_and, Bool.and_true, Bool.false_and, Bool.and_false, Bool.not_not, dTrue, dFalse, Int.toNat_natCast, List.length_append, List.length_cons, List.length_nil, meet_self]
  unfold memory_Memory_Loadfn1 memory_Memory_Loadfn1.body
  rfl
theorem write_ {a : Int} (h : lo ≤ a ∧ a < hi) (h0 : 0 ≤ lo) (ht : hi ≤ (ns.length : Int)) (hl : ns.length ≤ 5000000) (n : Int) (k : Bool → KS) : ∃ low' : Int, stack_Stack_write a n lo g hi sp al lim low true ns k = k true lo g hi sp al lim low' true (ns.set a.toNat n) := by
  refine ⟨if a - lo < low then a - lo else low, ?_⟩
  unfold stack_Stack_write stack_Stack_write.body
  rw [live_]
  simp (disch := first | omega | (simp only [List.length_append, List.length_cons, List.length_nil, List.length_set, List.length_take, List.length_drop, List.length_replicate]; omega) | fail) only [cond_t, cond_f, dt, df, w64, wu64, w8, ble_t, ble_f, ieqt, ieqf, inet, inef, Bool.not_true, Bool.not_false, Bool.true_and, Bool.and_true, Bool.false_and, Bool.and_false, Bool.not_not, dTrue, dFalse, Int.toNat_natCast, List.length_append, List.length_cons, List.length_nil, meet_self]
  rw [Store_ ⟨by omega, by omega⟩]
  simp (disch := first | omega | (simp only [List.length_append, List.length_cons, List.length_nil, List.length_set, List.length_take, List.length_drop, List.length_replicate]; omega) | fail) only [cond_t, cond_f, dt, df, w64, wu64, w8, ble_t, ble_f, ieqt, ieqf, inet, inef, Bool.not_true, Bool.not_false, Bool.true_and, Bool.and_true, Bool.false_and, Bool.and_false, Bool.not_not, dTrue, dFalse, Int.toNat_natCast, List.length_append, List.length_cons, List.length_nil, meet_self]
theorem Push_ (h : lo ≤ sp - 1 ∧ sp - 1 < hi) (h0 : 0 ≤ lo) (ht : hi ≤ (ns.length : Int)) (hl : ns.length ≤ 5000000) (n : Int) (k : Bool → KS) : ∃ low' : Int, stack_Stack_Push n lo g hi sp al lim low true ns k = k true lo g hi (sp - 1) al lim low' true (ns.set (sp - 1).toNat n) := by
  unfold stack_Stack_Push stack_Stack_Push.body stack_Stack_ahead stack_Stack_ahead.body
  rw [SP_, w64 (n := sp - 1) (by omega) (by omega)]
  obtain ⟨low', hw⟩ := write_ (lo := lo) (g := g) (hi := hi) (sp := sp) (al := al) (lim := lim) (low := low) (ns := ns) h h0 ht hl n (fun b153 n154 n155 n156 n157 n158 n159 n160 b161 ns162 => cond_ (!b153) (k false n154 n155 n156 n157 n158 n159 n160 b161 ns162) (k true n154 n155 n156 (IntKind.wrap .i64 (n157 - 1)) n158 n159 n160 b161 ns162))
  refine ⟨low', hw.trans ?_⟩
  simp (disch := first | omega | (simp only [List.length_append, List.length_cons, List.length_nil, List.length_set, List.length_take, List.length_drop, List.length_replicate]; omega) | fail) only [cond_t, cond_f, dt, df, w64, wu64, w8, ble_t, ble_f, ieqt, ieqf, inet, inef, Bool.not_true, Bool.not_false, Bool.true_and, Bool.and_true, Bool.false_and, Bool.and_false, Bool.not_not, dTrue, dFalse, Int.toNat_natCast, List.length_append, List.length_cons, List.length_nil, meet_self]
theorem Pop_ (h : lo ≤ sp ∧ sp < hi) (h0 : 0 ≤ lo) (ht : hi ≤ (ns.length : Int)) (hl : ns.length ≤ 4900000) (k : Int → Bool → KS) : stack_Stack_Pop lo g hi sp al lim low true ns k = k (ns.getD sp.toNat 0) true lo g hi (sp + 1) al lim low true ns := by
  unfold stack_Stack_Pop stack_Stack_Pop.body stack_Stack_Get stack_Stack_Get.body stack_Stack_has stack_Stack_has.body
  rw [cond_pos (dt (by omega)), Id_ ⟨by omega, by omega, by omega, by omega⟩]
  simp (disch := first | omega | (simp only [List.length_append, List.length_cons, List.length_nil, List.length_set, List.length_take, List.length_drop, List.length_replicate]; omega) | fail) only [cond_t, cond_f, dt, df, w64, wu64, w8, ble_t, ble_f, ieqt, ieqf, inet, inef, Bool.not_true, Bool.not_false, Bool.true_and, Bool.and_true, Bool.false_and, Bool.and_false, Bool.not_not, dTrue, dFalse, Int.toNat_natCast, List.length_append, List.length_cons, List.length_nil, meet_self, Int.add_zero]
  rw [Load_ ⟨by omega, by omega⟩]
  simp (disch := first | omega | (simp only [List.length_append, List.length_cons, List.length_nil, List.length_set, List.length_take, List.length_drop, List.length_replicate]; omega) | fail) only [cond_t, cond_f, dt, df, w64, wu64, w8, ble_t, ble_f, ieqt, ieqf, inet, inef, Bool.not_true, Bool.not_false, Bool.true_and, Bool.and_true, Bool.false_and, Bool.and_false, Bool.not_not, dTrue, dFalse, Int.toNat_natCast, List.length_append, List.length_cons, List.length_nil, meet_self]
theorem Pop0_ (h : sp = hi) (h0 : 0 ≤ lo) (hlo : lo ≤ hi) (ht : hi ≤ (ns.length : Int)) (hl : ns.length ≤ 4900000) (k : Int → Bool → KS) : stack_Stack_Pop lo g hi sp al lim low true ns k = k 0 false lo g hi sp al lim low true ns := by
  unfold stack_Stack_Pop stack_Stack_Pop.body stack_Stack_Get stack_Stack_Get.body stack_Stack_has stack_Stack_has.body
  rw [cond_pos (dt (by omega)), Id_ ⟨by omega, by omega, by omega, by omega⟩]
  simp (disch := first | omega | (simp only [List.length_append, List.length_cons, List.length_nil, List.length_set, List.length_take, List.length_drop, List.length_replicate]; omega) | fail) only [cond_t, cond_f, dt, df, w64, wu64, w8, ble_t, ble_f, ieqt, ieqf, inet, inef, Bool.not_true, Bool.not_false, Bool.true_and, Bool.and_true, Bool.false_and, Bool.and_false, Bool.not_not, dTrue, dFalse, Int.toNat_natCast, List.length_append, List.length_cons, List.length_nil, meet_self]
theorem dblL (least most : Int) (hm : most = 4194304) (K1 : Int → Bool → Option Bool) (K2 : Option Bool) : ∀ (n : Nat) (a : Int), 1 ≤ a → a ≤ 9000000 → (most - a).toNat < n → (∃ r, a ≤ r ∧ least ≤ r ∧ r ≤ most ∧ num_Double_L0 n a least most K1 K2 = K1 r true) ∨ num_Double_L0 n a least most K1 K2 = K2
  | 0, a, _, _, h => by omega
  | n + 1, a, h0, h1, h2 => by
    rw [num_Double_L0]
    unfold num_Double_L0.body
    by_cases c : a ≤ most
    · by_cases c2 : a ≥ least
      · refine .inl ⟨a, Int.le_refl _, c2, c, ?_⟩
        simp (disch := first | omega | (simp only [List.length_append, List.length_cons, List.length_nil, List.length_set, List.length_take, List.length_drop, List.length_replicate]; omega) | fail) only [cond_t, cond_f, dt, df, w64, wu64, w8, ble_t, ble_f, ieqt, ieqf, inet, inef, Bool.not_true, Bool.not_false, Bool.true_and, Bool.and_true, Bool.false_and, Bool.and_false, Bool.not_not, dTrue, dFalse, Int.toNat_natCast, List.length_append, List.length_cons, List.length_nil, meet_self]
      · by_cases c3 : a > most - a
        · refine .inr ?_
          simp (disch := first | omega | (simp only [List.length_append, List.length_cons, List.length_nil, List.length_set, List.length_take, List.length_drop, List.length_replicate]; omega) | fail) only [cond_t, cond_f, dt, df, w64, wu64, w8, ble_t, ble_f, ieqt, ieqf, inet, inef, Bool.not_true, Bool.not_false, Bool.true_and, Bool.and_true, Bool.false_and, Bool.and_false, Bool.not_not, dTrue, dFalse, Int.toNat_natCast, List.length_append, List.length_cons, List.length_nil, meet_self]
        · rcases dblL least most hm K1 K2 n (a + a) (by omega) (by omega) (by omega) with ⟨r, h3, h4, h5, h6⟩ | h3
          · refine .inl ⟨r, by omega, h4, h5, ?_⟩
            simp (disch := first | omega | (simp only [List.length_append, List.length_cons, List.length_nil, List.length_set, List.length_take, List.length_drop, List.length_replicate]; omega) | fail) only [cond_t, cond_f, dt, df, w64, wu64, w8, ble_t, ble_f, ieqt, ieqf, inet, inef, Bool.not_true, Bool.not_false, Bool.true_and, Bool.and_true, Bool.false_and, Bool.and_false, Bool.not_not, dTrue, dFalse, Int.toNat_natCast, List.length_append, List.length_cons, List.length_nil, meet_self]
            exact h6
          · refine .inr ?_
            simp (disch := first | omega | (simp only [List.length_append, List.length_cons, List.length_nil, List.length_set, List.length_take, List.length_drop, List.length_replicate]; omega) | fail) only [cond_t, cond_f, dt, df, w64, wu64, w8, ble_t, ble_f, ieqt, ieqf, inet, inef, Bool.not_true, Bool.not_false, Bool.true_and, Bool.and_true, Bool.false_and, Bool.and_false, Bool.not_not, dTrue, dFalse, Int.toNat_natCast, List.length_append, List.length_cons, List.length_nil, meet_self]
            exact h3
    · refine .inr ?_
      simp (disch := first | omega | (simp only [List.length_append, List.length_cons, List.length_nil, List.length_set, List.length_take, List.length_drop, List.length_replicate]; omega) | fail) only [cond_t, cond_f, dt, df, w64, wu64, w8, ble_t, ble_f, ieqt, ieqf, inet, inef, Bool.not_true, Bool.not_false, Bool.true_and, Bool.and_true, Bool.false_and, Bool.and_false, Bool.not_not, dTrue, dFalse, Int.toNat_natCast, List.length_append, List.length_cons, List.length_nil, meet_self]
theorem dbl_ (a least : Int) (h0 : 1 ≤ a) (h1 : a ≤ 9000000) (K : Int → Bool → Option Bool) : (∃ r, a ≤ r ∧ least ≤ r ∧ r ≤ 4194304 ∧ num_Double a least 4194304 K = K r true) ∨ num_Double a least 4194304 K = K 0 false := by
  unfold num_Double num_Double.body
  rw [cond_neg (df (by omega))]
  exact dblL least 4194304 rfl K (K 0 false) ROUNDS a h0 h1 (by unfold ROUNDS; omega)
theorem mgrow_ {n : Int} (h : 1 ≤ n) (h2 : n ≤ 4194304 - (ns.length : Int)) (k1 k2 : Int → Bool → Bool → List Int → Option Bool) : memory_Memory_Grow n true ns k1 k2 = k2 (ns.length : Int) true true (ns ++ List.replicate n.toNat 0) := by
  unfold memory_Memory_Grow memory_Memory_Grow.body
  simp (disch := first | omega | (simp only [List.length_append, List.length_cons, List.length_nil, List.length_set, List.length_take, List.length_drop, List.length_replicate]; omega) | fail) only [cond_t, cond_f, dt, df, w64, wu64, w8, ble_t, ble_f, ieqt, ieqf, inet, inef, Bool.not_true, Bool.not_false, Bool.true_and, Bool.and_true, Bool.false_and, Bool.and_false, Bool.not_not, dTrue, dFalse, Int.toNat_natCast, List.length_append, List.length_cons, List.length_nil, meet_self]
theorem copyf_ {a b : Int} (h : 0 ≤ a ∧ a ≤ (ns.length : Int)) (hl : ns.length ≤ 5000000) (h2 : b ≤ (ns.length : Int) - a) (k : Bool → Bool → List Int → Int → Option Bool) : memory_Memory_Copyfn1 a true ns b k = k true true ns b := by
  unfold memory_Memory_Copyfn1 memory_Memory_Copyfn1.body
  simp (disch := first | omega | (simp only [List.length_append, List.length_cons, List.length_nil, List.length_set, List.length_take, List.length_drop, List.length_replicate]; omega) | fail) only [cond_t, cond_f, dt, df, w64, wu64, w8, ble_t, ble_f, ieqt, ieqf, inet, inef, Bool.not_true, Bool.not_false, Bool.true_and, Bool.and_true, Bool.false_and, Bool.and_false, Bool.not_not, dTrue, dFalse, Int.toNat_natCast, List.length_append, List.length_cons, List.length_nil, meet_self]
theorem copy_ {to fr n : Int} (hn : 0 ≤ n) (h1 : 0 ≤ to ∧ to + n ≤ (ns.length : Int)) (h2 : 0 ≤ fr ∧ fr + n ≤ (ns.length : Int)) (hl : ns.length ≤ 5000000) (k : Bool → Bool → List Int → Option Bool) : memory_Memory_Copy to fr n true ns k = k true true (setCells ns to.toNat ((ns.drop fr.toNat).take n.toNat)) := by
  unfold memory_Memory_Copy memory_Memory_Copy.body
  have e : (fr + n - fr).toNat = n.toNat := by omega
  simp (disch := first | omega | (simp only [List.length_append, List.length_cons, List.length_nil, List.length_set, List.length_take, List.length_drop, List.length_replicate]; omega) | fail) only [cond_t, cond_f, dt, df, w64, wu64, w8, ble_t, ble_f, ieqt, ieqf, inet, inef, Bool.not_true, Bool.not_false, Bool.true_and, Bool.and_true, Bool.false_and, Bool.and_false, Bool.not_not, dTrue, dFalse, Int.toNat_natCast, List.length_append, List.length_cons, List.length_nil, meet_self]
  rw [copyf_ ⟨by omega, by omega⟩ hl (by omega)]
  simp (disch := first | omega | (simp only [List.length_append, List.length_cons, List.length_nil, List.length_set, List.length_take, List.length_drop, List.length_replicate]; omega) | fail) only [cond_t, cond_f, dt, df, w64, wu64, w8, ble_t, ble_f, ieqt, ieqf, inet, inef, Bool.not_true, Bool.not_false, Bool.true_and, Bool.and_true, Bool.false_and, Bool.and_false, Bool.not_not, dTrue, dFalse, Int.toNat_natCast, List.length_append, List.length_cons, List.length_nil, meet_self]
  rw [copyf_ ⟨by omega, by omega⟩ hl (by omega)]
  simp (disch := first | omega | (simp only [List.length_append, List.length_cons, List.length_nil, List.length_set, List.length_take, List.length_drop, List.length_replicate]; omega) | fail) only [cond_t, cond_f, dt, df, w64, wu64, w8, ble_t, ble_f, ieqt, ieqf, inet, inef, Bool.not_true, Bool.not_false, Bool.true_and, Bool.and_true, Bool.false_and, Bool.and_false, Bool.not_not, dTrue, dFalse, Int.toNat_natCast, List.length_append, List.length_cons, List.length_nil, meet_self, e]
  congr 1
  rw [List.take_of_length_le]
  rw [List.length_take, List.length_drop]
  omega
theorem setCells_len (xs ys : List Int) (o : Nat) (h : o + ys.length ≤ xs.length) : (setCells xs o ys).length = xs.length := by
  unfold setCells
  simp only [List.length_append, List.length_take, List.length_drop]
  omega
theorem setCells_get (xs ys : List Int) (o j : Nat) (h : o + ys.length ≤ xs.length) (hj : j < ys.length) : (setCells xs o ys).getD (o + j) 0 = ys.getD j 0 := by
  unfold setCells
  rw [List.getD_eq_getElem?_getD, List.getD_eq_getElem?_getD, List.append_assoc, List.getElem?_append_right (by rw [List.length_take]; omega), List.length_take, List.getElem?_append_left (by omega)]
  congr 2
  omega
/-- what stands on the stack -/
structure St (l : List Int) (i : Nat) (lo g hi sp al lim : Int) (ns : List Int) : Prop where
  g_ : g = lo + 64
  lo_ : 0 ≤ lo
  sz : lo + 128 ≤ hi
  top : hi ≤ (ns.length : Int)
  all : (ns.length : Int) = al
  cap : al ≤ 65536
  lim_ : lim = 65536
  cnt : sp + (i : Int) = hi
  few : i ≤ 60
  has : ∀ j, j < i → ns.getD (sp.toNat + j) 0 = l.getD (i - 1 - j) 0
theorem grow_ {l : List Int} {i : Nat} (h : St l i lo g hi sp al lim ns) {f : Int} (hf : 200 < f ∧ f < 256) (k1 k2 : Bool → KS)
    (H : ∀ lo' g' hi' sp' al' low' ns', St l i lo' g' hi' sp' al' lim ns' → g' + f ≤ sp' → k2 true lo' g' hi' sp' al' lim low' true ns' = some true) (H1 : k1 false lo g hi sp al lim low true ns = some true) (H2 : ∀ b ns', k1 b lo g hi sp al lim low true ns' = k1 b lo g hi sp al lim low true ns') :
    stack_Stack_Grow f lo g hi sp al lim low true ns k1 k2 = some true := by
  obtain ⟨hg, h0, hsz, htop, hall, hcap, hlim, hcnt, hfew, hhas⟩ := h
  unfold stack_Stack_Grow stack_Stack_Grow.body
  rw [live_]
  simp (disch := first | omega | (simp only [List.length_append, List.length_cons, List.length_nil, List.length_set, List.length_take, List.length_drop, List.length_replicate]; omega) | fail) only [cond_t, cond_f, dt, df, w64, wu64, w8, ble_t, ble_f, ieqt, ieqf, inet, inef, Bool.not_true, Bool.not_false, Bool.true_and, Bool.and_true, Bool.false_and, Bool.and_false, Bool.not_not, dTrue, dFalse, Int.toNat_natCast, List.length_append, List.length_cons, List.length_nil, meet_self]
  rw [Id_ ⟨by omega, by omega, by omega, by omega⟩]
  rw [w64 (n := hi - lo) (by omega) (by omega), w64 (n := 2 * (hi - lo)) (by omega) (by omega), if_neg (by omega), w64 (n := hi - sp + f) (by omega) (by omega), w64 (n := hi - sp + f + 64) (by omega) (by omega)]
  rcases dbl_ (2 * (hi - lo)) (hi - sp + f + 64) (by omega) (by omega) _ with ⟨r, h3, h4, h5, h6⟩ | h3
  · refine h6.trans ?_
    rw [cond_pos (by rfl), w64 (n := lim - al) (by omega) (by omega)]
    by_cases c : r > lim - al
    · rw [cond_pos (dt c)]
      exact H1
    · rw [cond_neg (df c), mgrow_ (by omega) (by omega)]
      rw [cond_neg (by rfl)]
      unfold stack_segment stack_segment.body
      have hlen : (ns ++ List.replicate r.toNat 0).length = ns.length + r.toNat := by simp
      rw [w64 (n := (ns.length : Int) + 64) (by omega) (by omega), w64 (n := (ns.length : Int) + r) (by omega) (by omega)]
      simp only
      rw [w64 (n := (ns.length : Int) + r - (hi - sp)) (by omega) (by omega), copy_ (by omega) ⟨by omega, by omega⟩ ⟨by omega, by omega⟩ (by omega), w64 (n := al + r) (by omega) (by omega)]
      have hys : ((List.drop sp.toNat (ns ++ List.replicate r.toNat 0)).take (hi - sp).toNat).length = i := by
        rw [List.length_take, List.length_drop, hlen]
        omega
      refine H _ _ _ _ _ low _ ⟨rfl, by omega, by omega, ?_, ?_, by omega, hlim, by omega, hfew, fun j hj => ?_⟩ (by omega)
      · rw [setCells_len _ _ _ (by rw [hys, hlen]; omega), hlen]; omega
      · rw [setCells_len _ _ _ (by rw [hys, hlen]; omega), hlen]; omega
      · rw [setCells_get _ _ _ j (by rw [hys, hlen]; omega) (by rw [hys]; exact hj), ← hhas j hj]
        rw [List.getD_eq_getElem?_getD, List.getD_eq_getElem?_getD, List.getElem?_take, if_pos (by omega), List.getElem?_drop, List.getElem?_append_left (by omega)]
  · refine h3.trans ?_
    rw [cond_neg (by rfl)]
    exact H1
theorem push_st {l : List Int} {i : Nat} (h : St l i lo g hi sp al lim ns) (hi60 : i < 60) (x : Int) (hx : l.getD i 0 = x) : St l (i + 1) lo g hi (sp - 1) al lim (ns.set (sp - 1).toNat x) := by
  obtain ⟨hg, h0, hsz, htop, hall, hcap, hlim, hcnt, hfew, hhas⟩ := h
  refine ⟨hg, h0, hsz, by rw [List.length_set]; exact htop, by rw [List.length_set]; exact hall, hcap, hlim, by omega, by omega, fun j hj => ?_⟩
  rw [List.getD_eq_getElem?_getD]
  cases j with
  | zero =>
    rw [Nat.add_zero, List.getElem?_set_self (by omega), show i + 1 - 1 - 0 = i by omega, hx]
    rfl
  | succ j =>
    rw [List.getElem?_set_ne (by omega), show (sp - 1).toNat + (j + 1) = sp.toNat + j by omega, ← List.getD_eq_getElem?_getD, hhas j (by omega)]
    congr 1
    omega
theorem passes_ {s q f : Int} (h : 0 ≤ q) (h1 : q + f ≤ s) (h2 : s ≤ 5000000) (hf : 200 < f ∧ f < 256) (k : Bool → Option Bool) : ref28_Passes 3 s q f k = k true := by
  unfold ref28_Passes ref28_Passes.body
  simp (disch := first | omega | (simp only [List.length_append, List.length_cons, List.length_nil, List.length_set, List.length_take, List.length_drop, List.length_replicate]; omega) | fail) only [cond_t, cond_f, dt, df, w64, wu64, w8, ble_t, ble_f, ieqt, ieqf, inet, inef, Bool.not_true, Bool.not_false, Bool.true_and, Bool.and_true, Bool.false_and, Bool.and_false, Bool.not_not, dTrue, dFalse, Int.toNat_natCast, List.length_append, List.length_cons, List.length_nil, meet_self]
theorem keepL (l gr : List Int) (hl : l.length ≤ 60) (hg : gr.length ≤ 60) (hb : ∀ i, i < gr.length → 0 ≤ gr.getD i 0 ∧ gr.getD i 0 < 256) (k1 : Bool → Option Bool) (k2 : List Int → KS) (H : ∀ lo g hi sp al lim low ns, St l l.length lo g hi sp al lim ns → k2 l lo g hi sp al lim low true ns = some true) : ∀ (n i : Nat) (lo g hi sp al lim low : Int) (ns : List Int), i ≤ l.length → l.length - i < n → St l i lo g hi sp al lim ns → law39_StackKeeps_L0 n l gr (i : Int) lo g hi sp al lim low true ns k1 k2 = some true
  | 0, i, _, _, _, _, _, _, _, _, _, h, _ => by omega
  | n + 1, i, lo, g, hi, sp, al, lim, low, ns, h0, h1, hs => by
    rw [law39_StackKeeps_L0]
    unfold law39_StackKeeps_L0.body
    by_cases c : i < l.length
    · simp (disch := first | omega | (simp only [List.length_append, List.length_cons, List.length_nil, List.length_set, List.length_take, List.length_drop, List.length_replicate]; omega) | fail) only [cond_t, cond_f, dt, df, w64, wu64, w8, ble_t, ble_f, ieqt, ieqf, inet, inef, Bool.not_true, Bool.not_false, Bool.true_and, Bool.and_true, Bool.false_and, Bool.and_false, Bool.not_not, dTrue, dFalse, Int.toNat_natCast, List.length_append, List.length_cons, List.length_nil, meet_self]
      have hp := push_st hs (by omega) (l.getD i 0) rfl
      obtain ⟨low', hw⟩ := Push_ (lo := lo) (g := g) (hi := hi) (sp := sp) (al := al) (lim := lim) (low := low) (ns := ns) ⟨by have := hs.cnt; have := hs.sz; omega, by have := hs.cnt; omega⟩ hs.lo_ hs.top (by have := hs.all; have := hs.cap; omega) (l.getD i 0) _
      refine hw.trans ?_
      have next : ∀ lo g hi sp al lim low ns, St l (i + 1) lo g hi sp al lim ns → law39_StackKeeps_L0 n l gr ((i : Int) + 1) lo g hi sp al lim low true ns k1 k2 = some true := fun lo g hi sp al lim low ns h => keepL l gr hl hg hb k1 k2 H n (i + 1) lo g hi sp al lim low ns (by omega) (by omega) h
      rw [cond_neg (by rfl)]
      by_cases c2 : i < gr.length
      · have hbi := hb i c2
        by_cases c3 : gr.getD i 0 > 200
        · simp (disch := first | omega | (simp only [List.length_append, List.length_cons, List.length_nil, List.length_set, List.length_take, List.length_drop, List.length_replicate]; omega) | fail) only [cond_t, cond_f, dt, df, w64, wu64, w8, ble_t, ble_f, ieqt, ieqf, inet, inef, Bool.not_true, Bool.not_false, Bool.true_and, Bool.and_true, Bool.false_and, Bool.and_false, Bool.not_not, dTrue, dFalse, Int.toNat_natCast, List.length_append, List.length_cons, List.length_nil, meet_self]
          refine grow_ hp ⟨c3, hbi.2⟩ _ _ (fun lo' g' hi' sp' al' low2 ns' h2 h3 => ?_) ?_ (fun _ _ => rfl)
          · rw [cond_t, SP_, Seg_]
            have a1 := h2.top
            have a2 := h2.all
            have a3 := h2.cap
            have a4 := h2.cnt
            have a5 := h2.g_
            have a6 := h2.lo_
            rw [passes_ (by dsimp only; omega) (by dsimp only; omega) (by omega) ⟨c3, hbi.2⟩, cond_neg (by rfl)]
            exact next _ _ _ _ _ _ _ _ h2
          · rw [cond_f]
            exact next _ _ _ _ _ _ _ _ hp
        · simp (disch := first | omega | (simp only [List.length_append, List.length_cons, List.length_nil, List.length_set, List.length_take, List.length_drop, List.length_replicate]; omega) | fail) only [cond_t, cond_f, dt, df, w64, wu64, w8, ble_t, ble_f, ieqt, ieqf, inet, inef, Bool.not_true, Bool.not_false, Bool.true_and, Bool.and_true, Bool.false_and, Bool.and_false, Bool.not_not, dTrue, dFalse, Int.toNat_natCast, List.length_append, List.length_cons, List.length_nil, meet_self]
          exact next _ _ _ _ _ _ _ _ hp
      · simp (disch := first | omega | (simp only [List.length_append, List.length_cons, List.length_nil, List.length_set, List.length_take, List.length_drop, List.length_replicate]; omega) | fail) only [cond_t, cond_f, dt, df, w64, wu64, w8, ble_t, ble_f, ieqt, ieqf, inet, inef, Bool.not_true, Bool.not_false, Bool.true_and, Bool.and_true, Bool.false_and, Bool.and_false, Bool.not_not, dTrue, dFalse, Int.toNat_natCast, List.length_append, List.length_cons, List.length_nil, meet_self]
        exact next _ _ _ _ _ _ _ _ hp
    · obtain rfl : i = l.length := by omega
      simp (disch := first | omega | (simp only [List.length_append, List.length_cons, List.length_nil, List.length_set, List.length_take, List.length_drop, List.length_replicate]; omega) | fail) only [cond_t, cond_f, dt, df, w64, wu64, w8, ble_t, ble_f, ieqt, ieqf, inet, inef, Bool.not_true, Bool.not_false, Bool.true_and, Bool.and_true, Bool.false_and, Bool.and_false, Bool.not_not, dTrue, dFalse, Int.toNat_natCast, List.length_append, List.length_cons, List.length_nil, meet_self]
      exact H _ _ _ _ _ _ _ _ hs
theorem popL (l : List Int) (hl : l.length ≤ 60) (k1 : Bool → Option Bool) (k2 : KS) (H : ∀ lo g hi sp al lim low ns, St l 0 lo g hi sp al lim ns → k2 lo g hi sp al lim low true ns = some true) : ∀ (n i : Nat) (lo g hi sp al lim low : Int) (ns : List Int), i ≤ l.length → i < n → St l i lo g hi sp al lim ns → law39_StackKeeps_L2 n l ((i : Int) - 1) lo g hi sp al lim low true ns k1 k2 = some true
  | 0, i, _, _, _, _, _, _, _, _, _, h, _ => by omega
  | n + 1, 0, lo, g, hi, sp, al, lim, low, ns, h0, h1, hs => by
    rw [law39_StackKeeps_L2]
    unfold law39_StackKeeps_L2.body
    simp (disch := first | omega | (simp only [List.length_append, List.length_cons, List.length_nil, List.length_set, List.length_take, List.length_drop, List.length_replicate]; omega) | fail) only [cond_t, cond_f, dt, df, w64, wu64, w8, ble_t, ble_f, ieqt, ieqf, inet, inef, Bool.not_true, Bool.not_false, Bool.true_and, Bool.and_true, Bool.false_and, Bool.and_false, Bool.not_not, dTrue, dFalse, Int.toNat_natCast, List.length_append, List.length_cons, List.length_nil, meet_self]
    exact H _ _ _ _ _ _ _ _ hs
  | n + 1, i + 1, lo, g, hi, sp, al, lim, low, ns, h0, h1, hs => by
    rw [law39_StackKeeps_L2]
    unfold law39_StackKeeps_L2.body
    have a1 := hs.top
    have a2 := hs.all
    have a3 := hs.cap
    have a4 := hs.cnt
    have a5 := hs.sz
    have a6 := hs.lo_
    have a7 := hs.few
    have e1 : ((i + 1 : Nat) : Int) - 1 = (i : Int) := by omega
    rw [e1]
    simp (disch := first | omega | (simp only [List.length_append, List.length_cons, List.length_nil, List.length_set, List.length_take, List.length_drop, List.length_replicate]; omega) | fail) only [cond_t, cond_f, dt, df, w64, wu64, w8, ble_t, ble_f, ieqt, ieqf, inet, inef, Bool.not_true, Bool.not_false, Bool.true_and, Bool.and_true, Bool.false_and, Bool.and_false, Bool.not_not, dTrue, dFalse, Int.toNat_natCast, List.length_append, List.length_cons, List.length_nil, meet_self]
    rw [Pop_ ⟨by omega, by omega⟩ a6 a1 (by omega)]
    have hh := hs.has 0 (by omega)
    rw [Nat.add_zero, show i + 1 - 1 - 0 = i by omega] at hh
    rw [hh]
    simp (disch := first | omega | (simp only [List.length_append, List.length_cons, List.length_nil, List.length_set, List.length_take, List.length_drop, List.length_replicate]; omega) | fail) only [cond_t, cond_f, dt, df, w64, wu64, w8, ble_t, ble_f, ieqt, ieqf, inet, inef, Bool.not_true, Bool.not_false, Bool.true_and, Bool.and_true, Bool.false_and, Bool.and_false, Bool.not_not, dTrue, dFalse, Int.toNat_natCast, List.length_append, List.length_cons, List.length_nil, meet_self]
    refine popL l hl k1 k2 H n i lo g hi (sp + 1) al lim low ns (by omega) (by omega) ⟨hs.g_, a6, a5, a1, a2, a3, hs.lim_, by omega, by omega, fun j hj => ?_⟩
    have := hs.has (j + 1) (by omega)
    rw [show sp.toNat + (j + 1) = (sp + 1).toNat + j by omega, show i + 1 - 1 - (j + 1) = i - 1 - j by omega] at this
    exact this
theorem mnew_ (k : Bool → List Int → Option Bool) : memory_New k = k true [] := by
  unfold memory_New memory_New.body slices_Clone_int64_int64 slices_Clone_int64_int64.body
  rfl
theorem snew_ (k1 : Bool → Bool → List Int → Option Bool) (k2 : Bool → Bool → List Int → Int → Int → Int → Int → Int → Int → Int → Option Bool) (k3 : Bool → Bool → List Int → Option Bool) (k4 : Bool → Bool → List Int → Int → Int → Int → Int → Int → Int → Int → Option Bool) : stack_New 65536 true [] k1 k2 k3 k4 = k4 true true ([] ++ List.replicate (128 : Int).toNat 0) 0 64 128 128 128 65536 128 := by
  unfold stack_New stack_New.body
  rw [cond_neg (df (by omega)), mgrow_ (by omega) (by simp), cond_neg (by rfl)]
  unfold stack_segment stack_segment.body
  rw [w64 (n := (([] : List Int).length : Int) + 64) (by simp) (by simp), w64 (n := (([] : List Int).length : Int) + 128) (by simp) (by simp)]
  rfl
theorem holds (l gr : List Int) (h0 : okD (.sl 2 (.int .i64)) l) (h1 : okD (.sl 5 (.int .u8)) gr) : law39_StackKeeps l gr (fun y => some y) = some true := by
  have hb : ∀ i, i < gr.length → 0 ≤ gr.getD i 0 ∧ gr.getD i 0 < 256 := by
    intro i hi
    have h := (okD_sl.1 h1).2
    rw [List.getD_eq_getElem?_getD, List.getElem?_eq_getElem hi]
    have := okD_int.1 (h _ (List.getElem_mem hi))
    simp [Lit.wf, IntKind.min, IntKind.max, IntKind.bits, IntKind.signed, i_] at this
    simp only [Option.getD_some]
    omega
  unfold law39_StackKeeps law39_StackKeeps.body law39_known
  by_cases c1 : (l.length : Int) > 60
  · simp (disch := first | omega | (simp only [List.length_append, List.length_cons, List.length_nil, List.length_set, List.length_take, List.length_drop, List.length_replicate]; omega) | fail) only [cond_t, cond_f, dt, df, w64, wu64, w8, ble_t, ble_f, ieqt, ieqf, inet, inef, Bool.not_true, Bool.not_false, Bool.true_and, Bool.and_true, Bool.false_and, Bool.and_false, Bool.not_not, dTrue, dFalse, Int.toNat_natCast, List.length_append, List.length_cons, List.length_nil, meet_self]
  · by_cases c2 : (gr.length : Int) > 60
    · simp (disch := first | omega | (simp only [List.length_append, List.length_cons, List.length_nil, List.length_set, List.length_take, List.length_drop, List.length_replicate]; omega) | fail) only [cond_t, cond_f, dt, df, w64, wu64, w8, ble_t, ble_f, ieqt, ieqf, inet, inef, Bool.not_true, Bool.not_false, Bool.true_and, Bool.and_true, Bool.false_and, Bool.and_false, Bool.not_not, dTrue, dFalse, Int.toNat_natCast, List.length_append, List.length_cons, List.length_nil, meet_self]
    · simp (disch := first | omega | (simp only [List.length_append, List.length_cons, List.length_nil, List.length_set, List.length_take, List.length_drop, List.length_replicate]; omega) | fail) only [cond_t, cond_f, dt, df, w64, wu64, w8, ble_t, ble_f, ieqt, ieqf, inet, inef, Bool.not_true, Bool.not_false, Bool.true_and, Bool.and_true, Bool.false_and, Bool.and_false, Bool.not_not, dTrue, dFalse, Int.toNat_natCast, List.length_append, List.length_cons, List.length_nil, meet_self]
      rw [mnew_, snew_, cond_pos (by rfl)]
      have hst : St l 0 0 64 128 128 128 65536 ([] ++ List.replicate (128 : Int).toNat 0) := ⟨rfl, by omega, by omega, by simp, by simp, by omega, rfl, by omega, by omega, fun j hj => by omega⟩
      refine keepL l gr (by omega) (by omega) hb _ _ (fun lo g hi sp al lim low ns hs => ?_) ROUNDS 0 0 64 128 128 128 65536 128 _ (by omega) (by unfold ROUNDS; omega) hst
      rw [w64 (n := (l.length : Int) - 1) (by omega) (by omega)]
      refine popL l (by omega) _ _ (fun lo g hi sp al lim low ns hs => ?_) ROUNDS l.length lo g hi sp al lim low ns (by omega) (by unfold ROUNDS; omega) hs
      have a1 := hs.top
      have a2 := hs.all
      have a3 := hs.cap
      have a4 := hs.cnt
      have a5 := hs.sz
      have a6 := hs.lo_
      rw [Pop0_ (by omega) a6 (by omega) a1 (by omega)]
      rw [cond_pos (by rfl), Id_ ⟨by omega, by omega, by omega, by omega⟩, cond_pos (ieqt (by omega))]

end Go.Proofs.Ytefhednjdlblpaa.stackKeeps
