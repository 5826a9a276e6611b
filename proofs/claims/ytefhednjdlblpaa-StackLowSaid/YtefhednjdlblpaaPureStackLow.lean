/- What the plain functions answer: the law, without program or memory. -/
import Derived.Test.YtefhednjdlblpaaML
import Derived.IntWalk
import Derived.Laws.Strings
namespace Go.Proofs.Ytefhednjdlblpaa.stackLow
open Go.AX Go.Proofs.Ytefhednjdlblpaa.l
set_option linter.unusedVariables false
set_option linter.unusedSimpArgs false
theorem cond_ite (b : Bool) (x y : Option Bool) : cond_ b x y = if b = true then x else y := by cases b <;> rfl
@[simp] theorem cond_t (x y : Option Bool) : cond_ true x y = x := (cond_ite true x y).trans (if_pos rfl)
@[simp] theorem cond_f (x y : Option Bool) : cond_ false x y = y := (cond_ite false x y).trans (if_neg (by decide))
theorem cond_pos {b : Bool} {x y : Option Bool} (h : b = true) : cond_ b x y = x := by rw [h]; rfl
theorem cond_neg {b : Bool} {x y : Option Bool} (h : b = false) : cond_ b x y = y := by rw [h]; rfl
@[simp] theorem meet_self (x : Option Bool) : meet x x = x := by
  cases x with
  | none => rfl
  | some a => simp [meet]
theorem w64 {n : Int} (h1 : -9223372036854775808 ≤ n) (h2 : n ≤ 9223372036854775807) : IntKind.wrap .i64 n = n := IntWalk.i64_in n ⟨h1, h2⟩
theorem w8 {n : Int} (h1 : 0 ≤ n) (h2 : n ≤ 255) : IntKind.wrap .u8 n = n := IntWalk.u8_in n ⟨h1, h2⟩
theorem wu64 {n : Int} (h1 : 0 ≤ n) (h2 : n ≤ 18446744073709551615) : IntKind.wrap .u64 n = n := IntWalk.u64_in n ⟨h1, h2⟩
theorem ble_t {a b : Nat} (h : a ≤ b) : Nat.ble a b = true := by rw [Nat.ble_eq]; exact h
theorem ok64 {n : Int} (h : okD (.int .i64) n) : -9223372036854775808 ≤ n ∧ n ≤ 9223372036854775807 := by
  have := okD_int.1 h
  simpa [Lit.wf, IntKind.min, IntKind.max, IntKind.bits, IntKind.signed, i_] using this
theorem not_t {p : Prop} [Decidable p] (h : ¬p) : (!decide p) = true := by simp [h]
theorem not_f {p : Prop} [Decidable p] (h : p) : (!decide p) = false := by simp [h]
theorem cond_congr {b c : Bool} (h : b = c) (x y : Option Bool) : cond_ b x y = cond_ c x y := by rw [h]
attribute [local congr] cond_congr
theorem dt {p : Prop} [Decidable p] (h : p) : decide p = true := decide_eq_true h
theorem df {p : Prop} [Decidable p] (h : ¬p) : decide p = false := decide_eq_false h
theorem ieqt {a b : Int} (h : a = b) : (a == b) = true := by simp [h]
theorem ieqf {a b : Int} (h : a ≠ b) : (a == b) = false := by simp [h]
theorem inet {a b : Int} (h : a ≠ b) : (a != b) = true := by simp [h]
theorem inef {a b : Int} (h : a = b) : (a != b) = false := by simp [h]
theorem ble_f {a b : Nat} (h : b < a) : Nat.ble a b = false := by
  cases hb : Nat.ble a b with
  | false => rfl
  | true => rw [Nat.ble_eq] at hb; omega
theorem rounds_ : ∃ R, ROUNDS = R ∧ 1000000000 ≤ R := ⟨ROUNDS, rfl, by unfold ROUNDS; omega⟩
theorem dTrue {i : Decidable True} : decide True = true := dt trivial
theorem dFalse {i : Decidable False} : decide False = false := df fun h => h
theorem if_iff {α : Type} {p q : Prop} [Decidable p] [Decidable q] (h : p ↔ q) (a b : α) : (if p then a else b) = (if q then a else b) := by
  by_cases hp : p
  · rw [if_pos hp, if_pos (h.1 hp)]
  · rw [if_neg hp, if_neg (fun g => hp (h.2 g))]
variable {lo g hi sp al lim low : Int} {ns : List Int}
abbrev KS := Int → Int → Int → Int → Int → Int → Int → Bool → List Int → Option Bool
theorem live_ (k : Bool → KS) : stack_Stack_livev1 lo g hi sp al lim low true ns k = k true lo g hi sp al lim low true ns := by
  unfold stack_Stack_livev1 stack_Stack_livev1.body
  rfl
theorem SP_ (k : Int → KS) : stack_Stack_SPv1 lo g hi sp al lim low true ns k = k sp lo g hi sp al lim low true ns := by
  unfold stack_Stack_SPv1 stack_Stack_SPv1.body
  rw [live_]
  simp (disch := first | omega | (simp only [List.length_append, List.length_cons, List.length_nil, List.length_set, List.length_take, List.length_drop, List.length_replicate]; omega) | fail) only [cond_t, cond_f, dt, df, w64, wu64, w8, ble_t, ble_f, ieqt, ieqf, inet, inef, Bool.not_true, Bool.not_false, Bool.true_and, Bool.and_true, Bool.false_and, Bool.and_false, Bool.not_not, dTrue, dFalse, Int.toNat_natCast, List.length_append, List.length_cons, List.length_nil, meet_self]
theorem Seg_ (k : Int × Int × Int × Unit → KS) : stack_Stack_Segv1 lo g hi sp al lim low true ns k = k (lo, g, hi, ()) lo g hi sp al lim low true ns := by
  unfold stack_Stack_Segv1 stack_Stack_Segv1.body
  rw [live_]
  simp (disch := first | omega | (simp only [List.length_append, List.length_cons, List.length_nil, List.length_set, List.length_take, List.length_drop, List.length_replicate]; omega) | fail) only [cond_t, cond_f, dt, df, w64, wu64, w8, ble_t, ble_f, ieqt, ieqf, inet, inef, Bool.not_true, Bool.not_false, Bool.true_and, Bool.and_true, Bool.false_and, Bool.and_false, Bool.not_not, dTrue, dFalse, Int.toNat_natCast, List.length_append, List.length_cons, List.length_nil, meet_self]
theorem Id_ (h : 0 ≤ sp ∧ sp ≤ 5000000 ∧ 0 ≤ hi ∧ hi ≤ 5000000) (k : Int → KS) : stack_Stack_Idv1 lo g hi sp al lim low true ns k = k (hi - sp) lo g hi sp al lim low true ns := by
  unfold stack_Stack_Idv1 stack_Stack_Idv1.body
  rw [Seg_, SP_]
  simp (disch := first | omega | (simp only [List.length_append, List.length_cons, List.length_nil, List.length_set, List.length_take, List.length_drop, List.length_replicate]; omega) | fail) only [cond_t, cond_f, dt, df, w64, wu64, w8, ble_t, ble_f, ieqt, ieqf, inet, inef, Bool.not_true, Bool.not_false, Bool.true_and, Bool.and_true, Bool.false_and, Bool.and_false, Bool.not_not, dTrue, dFalse, Int.toNat_natCast, List.length_append, List.length_cons, List.length_nil, meet_self]
theorem Size_ (k : Int → Bool → List Int → Option Bool) : memory_Memory_Size true ns k = k (ns.length : Int) true ns := by
  unfold memory_Memory_Size memory_Memory_Size.body
  simp (disch := first | omega | (simp only [List.length_append, List.length_cons, List.length_nil, List.length_set, List.length_take, List.length_drop, List.length_replicate]; omega) | fail) only [cond_t, cond_f, dt, df, w64, wu64, w8, ble_t, ble_f, ieqt, ieqf, inet, inef, Bool.not_true, Bool.not_false, Bool.true_and, Bool.and_true, Bool.false_and, Bool.and_false, Bool.not_not, dTrue, dFalse, Int.toNat_natCast, List.length_append, List.length_cons, List.length_nil, meet_self]
theorem Store_ {a : Int} (h : 0 ≤ a ∧ a < (ns.length : Int)) (n : Int) (k : Bool → Bool → List Int → Option Bool) : memory_Memory_Store a n true ns k = k true true (ns.set a.toNat n) := by
  unfold memory_Memory_Store memory_Memory_Store.body memory_Memory_at memory_Memory_at.body
  rw [Size_]
  simp (disch := first | omega | (simp only [List.length_append, List.length_cons, List.length_nil, List.length_set, List.length_take, List.length_drop, List.length_replicate]; omega) | fail) only [cond_t, cond_f, dt, df, w64, wu64, w8, ble_t, ble_f, ieqt, ieqf, inet, inef, Bool.not_true, Bool.not_false, Bool.true_and, Bool.and_true, Bool.false_and, Bool.and_false, Bool.not_not, dTrue, dFalse, Int.toNat_natCast, List.length_append, List.length_cons, List.length_nil, meet_self]
  unfold memory_Memory_Storefn1 memory_Memory_Storefn1.body
  rfl
theorem Load_ {a : Int} (h : 0 ≤ a ∧ a < (ns.length : Int)) (k : Int → Bool → Bool → List Int → Option Bool) : memory_Memory_Load a true ns k = k (ns.getD a.toNat 0) true true ns := by
  unfold memory_Memory_Load memory_Memory_Load.body memory_Memory_atv1 memory_Memory_atv1.body
  rw [Size_]
  simp (disch := first | omega | (simp only [List.length_append, List.length_cons, List.length_nil, List.length_set, List.length_take, List.length_drop, List.length_replicate]; omega) | fail) only [cond_t, cond_f, dt, df, w64, wu64, w8, ble_t, ble_f, ieqt, ieqf, inet, inef, Bool.not_true, Bool.not_false, Bool.true_and, Bool.and_true, Bool.false_and, Bool.and_false, Bool.not_not, dTrue, dFalse, Int.toNat_natCast, List.length_append, List.length_cons, List.length_nil, meet_self]
  unfold memory_Memory_Loadfn1 memory_Memory_Loadfn1.body
  rfl
theorem write_ {a : Int} (h : lo ≤ a ∧ a < hi) (h0 : 0 ≤ lo) (ht : hi ≤ (ns.length : Int)) (hl : ns.length ≤ 5000000) (n : Int) (k : Bool → KS) : ∃ low' : Int, stack_Stack_writev1 a n lo g hi sp al lim low true ns k = k true lo g hi sp al lim low' true (ns.set a.toNat n) := by
  refine ⟨if a - lo < low then a - lo else low, ?_⟩
  unfold stack_Stack_writev1 stack_Stack_writev1.body
  rw [live_]
  simp (disch := first | omega | (simp only [List.length_append, List.length_cons, List.length_nil, List.length_set, List.length_take, List.length_drop, List.length_replicate]; omega) | fail) only [cond_t, cond_f, dt, df, w64, wu64, w8, ble_t, ble_f, ieqt, ieqf, inet, inef, Bool.not_true, Bool.not_false, Bool.true_and, Bool.and_true, Bool.false_and, Bool.and_false, Bool.not_not, dTrue, dFalse, Int.toNat_natCast, List.length_append, List.length_cons, List.length_nil, meet_self]
  rw [Store_ ⟨by omega, by omega⟩]
  simp (disch := first | omega | (simp only [List.length_append, List.length_cons, List.length_nil, List.length_set, List.length_take, List.length_drop, List.length_replicate]; omega) | fail) only [cond_t, cond_f, dt, df, w64, wu64, w8, ble_t, ble_f, ieqt, ieqf, inet, inef, Bool.not_true, Bool.not_false, Bool.true_and, Bool.and_true, Bool.false_and, Bool.and_false, Bool.not_not, dTrue, dFalse, Int.toNat_natCast, List.length_append, List.length_cons, List.length_nil, meet_self]
theorem Push_ (h : lo ≤ sp - 1 ∧ sp - 1 < hi) (h0 : 0 ≤ lo) (ht : hi ≤ (ns.length : Int)) (hl : ns.length ≤ 5000000) (n : Int) (k : Bool → KS) : ∃ low' : Int, stack_Stack_Pushv1 n lo g hi sp al lim low true ns k = k true lo g hi (sp - 1) al lim low' true (ns.set (sp - 1).toNat n) := by
  unfold stack_Stack_Pushv1 stack_Stack_Pushv1.body stack_Stack_aheadv1 stack_Stack_aheadv1.body
  rw [SP_, w64 (n := sp - 1) (by omega) (by omega)]
  obtain ⟨low', hw⟩ := write_ (lo := lo) (g := g) (hi := hi) (sp := sp) (al := al) (lim := lim) (low := low) (ns := ns) h h0 ht hl n (fun b153 n154 n155 n156 n157 n158 n159 n160 b161 ns162 => cond_ (!b153) (k false n154 n155 n156 n157 n158 n159 n160 b161 ns162) (k true n154 n155 n156 (IntKind.wrap .i64 (n157 - 1)) n158 n159 n160 b161 ns162))
  refine ⟨low', hw.trans ?_⟩
  simp (disch := first | omega | (simp only [List.length_append, List.length_cons, List.length_nil, List.length_set, List.length_take, List.length_drop, List.length_replicate]; omega) | fail) only [cond_t, cond_f, dt, df, w64, wu64, w8, ble_t, ble_f, ieqt, ieqf, inet, inef, Bool.not_true, Bool.not_false, Bool.true_and, Bool.and_true, Bool.false_and, Bool.and_false, Bool.not_not, dTrue, dFalse, Int.toNat_natCast, List.length_append, List.length_cons, List.length_nil, meet_self]
theorem Low_ (k : Int → KS) : stack_Stack_Lowv1 lo g hi sp al lim low true ns k = k low lo g hi sp al lim low true ns := by
  unfold stack_Stack_Lowv1 stack_Stack_Lowv1.body
  rw [live_]
  simp (disch := first | omega | (simp only [List.length_append, List.length_cons, List.length_nil, List.length_set, List.length_take, List.length_drop, List.length_replicate]; omega) | fail) only [cond_t, cond_f, dt, df, w64, wu64, w8, ble_t, ble_f, ieqt, ieqf, inet, inef, Bool.not_true, Bool.not_false, Bool.true_and, Bool.and_true, Bool.false_and, Bool.and_false, Bool.not_not, dTrue, dFalse, Int.toNat_natCast, List.length_append, List.length_cons, List.length_nil, meet_self]
theorem Pop_ (h : lo ≤ sp ∧ sp < hi) (h0 : 0 ≤ lo) (ht : hi ≤ (ns.length : Int)) (hl : ns.length ≤ 4900000) (k : Int → Bool → KS) : stack_Stack_Popv1 lo g hi sp al lim low true ns k = k (ns.getD sp.toNat 0) true lo g hi (sp + 1) al lim low true ns := by
  unfold stack_Stack_Popv1 stack_Stack_Popv1.body stack_Stack_Getv1 stack_Stack_Getv1.body stack_Stack_hasv1 stack_Stack_hasv1.body
  rw [cond_pos (dt (by omega)), Id_ ⟨by omega, by omega, by omega, by omega⟩]
  simp (disch := first | omega | (simp only [List.length_append, List.length_cons, List.length_nil, List.length_set, List.length_take, List.length_drop, List.length_replicate]; omega) | fail) only [cond_t, cond_f, dt, df, w64, wu64, w8, ble_t, ble_f, ieqt, ieqf, inet, inef, Bool.not_true, Bool.not_false, Bool.true_and, Bool.and_true, Bool.false_and, Bool.and_false, Bool.not_not, dTrue, dFalse, Int.toNat_natCast, List.length_append, List.length_cons, List.length_nil, meet_self, Int.add_zero]
  rw [Load_ ⟨by omega, by omega⟩]
  simp (disch := first | omega | (simp only [List.length_append, List.length_cons, List.length_nil, List.length_set, List.length_take, List.length_drop, List.length_replicate]; omega) | fail) only [cond_t, cond_f, dt, df, w64, wu64, w8, ble_t, ble_f, ieqt, ieqf, inet, inef, Bool.not_true, Bool.not_false, Bool.true_and, Bool.and_true, Bool.false_and, Bool.and_false, Bool.not_not, dTrue, dFalse, Int.toNat_natCast, List.length_append, List.length_cons, List.length_nil, meet_self]
theorem Pop0_ (h : sp = hi) (h0 : 0 ≤ lo) (hlo : lo ≤ hi) (ht : hi ≤ (ns.length : Int)) (hl : ns.length ≤ 4900000) (k : Int → Bool → KS) : stack_Stack_Popv1 lo g hi sp al lim low true ns k = k 0 false lo g hi sp al lim low true ns := by
  unfold stack_Stack_Popv1 stack_Stack_Popv1.body stack_Stack_Getv1 stack_Stack_Getv1.body stack_Stack_hasv1 stack_Stack_hasv1.body
  rw [cond_pos (dt (by omega)), Id_ ⟨by omega, by omega, by omega, by omega⟩]
  simp (disch := first | omega | (simp only [List.length_append, List.length_cons, List.length_nil, List.length_set, List.length_take, List.length_drop, List.length_replicate]; omega) | fail) only [cond_t, cond_f, dt, df, w64, wu64, w8, ble_t, ble_f, ieqt, ieqf, inet, inef, Bool.not_true, Bool.not_false, Bool.true_and, Bool.and_true, Bool.false_and, Bool.and_false, Bool.not_not, dTrue, dFalse, Int.toNat_natCast, List.length_append, List.length_cons, List.length_nil, meet_self]
theorem dblL (least most : Int) (hm : most = 4194304) (K1 : Int → Bool → Option Bool) (K2 : Option Bool) : ∀ (n : Nat) (a : Int), 1 ≤ a → a ≤ 9000000 → (most - a).toNat < n → (∃ r, a ≤ r ∧ least ≤ r ∧ r ≤ most ∧ num_Double_L0 n a least most K1 K2 = K1 r true) ∨ num_Double_L0 n a least most K1 K2 = K2
  | 0, a, _, _, h => by omega
  | n + 1, a, h0, h1, h2 => by
    rw [num_Double_L0]
    unfold num_Double_L0.body
    by_cases c : a ≤ most
    · by_cases c2 : a ≥ least
      · refine .inl ⟨a, Int.le_refl _, c2, c, ?_⟩
        simp (disch := first | omega | (simp only [List.length_append, List.length_cons, List.length_nil, List.length_set, List.length_take, List.length_drop, List.length_replicate]; omega) | fail) only [cond_t, cond_f, dt, df, w64, wu64, w8, ble_t, ble_f, ieqt, ieqf, inet, inef, Bool.not_true, Bool.not_false, Bool.true_and, Bool.and_true, Bool.false_and, Bool.and_false, Bool.not_not, dTrue, dFalse, Int.toNat_natCast, List.length_append, List.length_cons, List.length_nil, meet_self]
      · by_cases c3 : a > most - a
        · refine .inr ?_
          simp (disch := first | omega | (simp only [List.length_append, List.length_cons, List.length_nil, List.length_set, List.length_take, List.length_drop, List.length_replicate]; omega) | fail) only [cond_t, cond_f, dt, df, w64, wu64, w8, ble_t, ble_f, ieqt, ieqf, inet, inef, Bool.not_true, Bool.not_false, Bool.true_and, Bool.and_true, Bool.false_and, Bool.and_false, Bool.not_not, dTrue, dFalse, Int.toNat_natCast, List.length_append, List.length_cons, List.length_nil, meet_self]
        · rcases dblL least most hm K1 K2 n (a + a) (by omega) (by omega) (by omega) with ⟨r, h3, h4, h5, h6⟩ | h3
          · refine .inl ⟨r, by omega, h4, h5, ?_⟩
            simp (disch := first | omega | (simp only [List.length_append, List.length_cons, List.length_nil, List.length_set, List.length_take, List.length_drop, List.length_replicate]; omega) | fail) only [cond_t, cond_f, dt, df, w64, wu64, w8, ble_t, ble_f, ieqt, ieqf, inet, inef, Bool.not_true, Bool.not_false, Bool.true_and, Bool.and_true, Bool.false_and, Bool.and_false, Bool.not_not, dTrue, dFalse, Int.toNat_natCast, List.length_append, List.length_cons, List.length_nil, meet_self]
            exact h6
          · refine .inr ?_
            simp (disch := first | omega | (simp only [List.length_append, List.length_cons, List.length_nil, List.length_set, List.length_take, List.length_drop, List.length_replicate]; omega) | fail) only [cond_t, cond_f, dt, df, w64, wu64, w8, ble_t, ble_f, ieqt, ieqf, inet, inef, Bool.not_true, Bool.not_false, Bool.true_and, Bool.and_true, Bool.false_and, Bool.and_false, Bool.not_not, dTrue, dFalse, Int.toNat_natCast, List.length_append, List.length_cons, List.length_nil, meet_self]
            exact h3
    · refine .inr ?_
      simp (disch := first | omega | (simp only [List.length_append, List.length_cons, List.length_nil, List.length_set, List.length_take, List.length_drop, List.length_replicate]; omega) | fail) only [cond_t, cond_f, dt, df, w64, wu64, w8, ble_t, ble_f, ieqt, ieqf, inet, inef, Bool.not_true, Bool.not_false, Bool.true_and, Bool.and_true, Bool.false_and, Bool.and_false, Bool.not_not, dTrue, dFalse, Int.toNat_natCast, List.length_append, List.length_cons, List.length_nil, meet_self]
theorem dbl_ (a least : Int) (h0 : 1 ≤ a) (h1 : a ≤ 9000000) (K : Int → Bool → Option Bool) : (∃ r, a ≤ r ∧ least ≤ r ∧ r ≤ 4194304 ∧ num_Double a least 4194304 K = K r true) ∨ num_Double a least 4194304 K = K 0 false := by
  unfold num_Double num_Double.body
  rw [cond_neg (df (by omega))]
  exact dblL least 4194304 rfl K (K 0 false) ROUNDS a h0 h1 (by unfold ROUNDS; omega)
theorem mgrow_ {n : Int} (h : 1 ≤ n) (h2 : n ≤ 4194304 - (ns.length : Int)) (k1 k2 : Int → Bool → Bool → List Int → Option Bool) : memory_Memory_Grow n true ns k1 k2 = k2 (ns.length : Int) true true (ns ++ List.replicate n.toNat 0) := by
  unfold memory_Memory_Grow memory_Memory_Grow.body
  simp (disch := first | omega | (simp only [List.length_append, List.length_cons, List.length_nil, List.length_set, List.length_take, List.length_drop, List.length_replicate]; omega) | fail) only [cond_t, cond_f, dt, df, w64, wu64, w8, ble_t, ble_f, ieqt, ieqf, inet, inef, Bool.not_true, Bool.not_false, Bool.true_and, Bool.and_true, Bool.false_and, Bool.and_false, Bool.not_not, dTrue, dFalse, Int.toNat_natCast, List.length_append, List.length_cons, List.length_nil, meet_self]
theorem copyf_ {a b : Int} (h : 0 ≤ a ∧ a ≤ (ns.length : Int)) (hl : ns.length ≤ 5000000) (h2 : b ≤ (ns.length : Int) - a) (k : Bool → Bool → List Int → Int → Option Bool) : memory_Memory_Copyfn1 a true ns b k = k true true ns b := by
  unfold memory_Memory_Copyfn1 memory_Memory_Copyfn1.body
  simp (disch := first | omega | (simp only [List.length_append, List.length_cons, List.length_nil, List.length_set, List.length_take, List.length_drop, List.length_replicate]; omega) | fail) only [cond_t, cond_f, dt, df, w64, wu64, w8, ble_t, ble_f, ieqt, ieqf, inet, inef, Bool.not_true, Bool.not_false, Bool.true_and, Bool.and_true, Bool.false_and, Bool.and_false, Bool.not_not, dTrue, dFalse, Int.toNat_natCast, List.length_append, List.length_cons, List.length_nil, meet_self]
theorem copy_ {to fr n : Int} (hn : 0 ≤ n) (h1 : 0 ≤ to ∧ to + n ≤ (ns.length : Int)) (h2 : 0 ≤ fr ∧ fr + n ≤ (ns.length : Int)) (hl : ns.length ≤ 5000000) (k : Bool → Bool → List Int → Option Bool) : memory_Memory_Copy to fr n true ns k = k true true (setCells ns to.toNat ((ns.drop fr.toNat).take n.toNat)) := by
  unfold memory_Memory_Copy memory_Memory_Copy.body
  have e : (fr + n - fr).toNat = n.toNat := by omega
  simp (disch := first | omega | (simp only [List.length_append, List.length_cons, List.length_nil, List.length_set, List.length_take, List.length_drop, List.length_replicate]; omega) | fail) only [cond_t, cond_f, dt, df, w64, wu64, w8, ble_t, ble_f, ieqt, ieqf, inet, inef, Bool.not_true, Bool.not_false, Bool.true_and, Bool.and_true, Bool.false_and, Bool.and_false, Bool.not_not, dTrue, dFalse, Int.toNat_natCast, List.length_append, List.length_cons, List.length_nil, meet_self]
  rw [copyf_ ⟨by omega, by omega⟩ hl (by omega)]
  simp (disch := first | omega | (simp only [List.length_append, List.length_cons, List.length_nil, List.length_set, List.length_take, List.length_drop, List.length_replicate]; omega) | fail) only [cond_t, cond_f, dt, df, w64, wu64, w8, ble_t, ble_f, ieqt, ieqf, inet, inef, Bool.not_true, Bool.not_false, Bool.true_and, Bool.and_true, Bool.false_and, Bool.and_false, Bool.not_not, dTrue, dFalse, Int.toNat_natCast, List.length_append, List.length_cons, List.length_nil, meet_self]
  rw [copyf_ ⟨by omega, by omega⟩ hl (by omega)]
  simp (disch := first | omega | (simp only [List.length_append, List.length_cons, List.length_nil, List.length_set, List.length_take, List.length_drop, List.length_replicate]; omega) | fail) only [cond_t, cond_f, dt, df, w64, wu64, w8, ble_t, ble_f, ieqt, ieqf, inet, inef, Bool.not_true, Bool.not_false, Bool.true_and, Bool.and_true, Bool.false_and, Bool.and_false, Bool.not_not, dTrue, dFalse, Int.toNat_natCast, List.length_append, List.length_cons, List.length_nil, meet_self, e]
  congr 1
  rw [List.take_of_length_le]
  rw [List.length_take, List.length_drop]
  omega
theorem setCells_len (xs ys : List Int) (o : Nat) (h : o + ys.length ≤ xs.length) : (setCells xs o ys).length = xs.length := by
  unfold setCells
  simp only [List.length_append, List.length_take, List.length_drop]
  omega

/-- a stack as it may be -/
structure Inv (lo g hi sp al lim low : Int) (ns : List Int) : Prop where
  g_ : g = lo + 64
  lo_ : 0 ≤ lo
  sz : lo + 128 ≤ hi
  top : hi ≤ (ns.length : Int)
  all : (ns.length : Int) = al
  cap : al ≤ lim
  lim_ : lim ≤ 3000
  sp_ : lo ≤ sp ∧ sp ≤ hi
  low_ : 0 ≤ low ∧ low ≤ 128
abbrev Same (lo g hi sp low lo' g' hi' sp' low' : Int) : Prop := lo' = lo ∧ g' = g ∧ hi' = hi ∧ sp' = sp ∧ low' = low
abbrev Good (lo g hi sp al lim low : Int) (K : Bool → KS) : Prop := ∀ d lo' g' hi' sp' al' low' ns', Inv lo' g' hi' sp' al' lim low' ns' → low' ≤ low → (d = false → Same lo g hi sp low lo' g' hi' sp' low') → K d lo' g' hi' sp' al' lim low' true ns' = some true
theorem write_ok (h : Inv lo g hi sp al lim low ns) (a n : Int) (K : Bool → KS) (H : ∀ d low' ns', Inv lo g hi sp al lim low' ns' → low' ≤ low → (d = false → low' = low) → K d lo g hi sp al lim low' true ns' = some true) : stack_Stack_writev1 a n lo g hi sp al lim low true ns K = some true := by
  obtain ⟨h1, h2, h3, h4, h5, h6, h7, h8, h9⟩ := h
  by_cases c : lo ≤ a ∧ a < hi
  · unfold stack_Stack_writev1 stack_Stack_writev1.body
    rw [live_]
    simp (disch := first | omega | (simp only [List.length_append, List.length_cons, List.length_nil, List.length_set, List.length_take, List.length_drop, List.length_replicate]; omega) | fail) only [cond_t, cond_f, dt, df, w64, wu64, w8, ble_t, ble_f, ieqt, ieqf, inet, inef, Bool.not_true, Bool.not_false, Bool.true_and, Bool.and_true, Bool.false_and, Bool.and_false, Bool.not_not, dTrue, dFalse, Int.toNat_natCast, List.length_append, List.length_cons, List.length_nil, meet_self]
    rw [Store_ ⟨by omega, by omega⟩]
    simp (disch := first | omega | (simp only [List.length_append, List.length_cons, List.length_nil, List.length_set, List.length_take, List.length_drop, List.length_replicate]; omega) | fail) only [cond_t, cond_f, dt, df, w64, wu64, w8, ble_t, ble_f, ieqt, ieqf, inet, inef, Bool.not_true, Bool.not_false, Bool.true_and, Bool.and_true, Bool.false_and, Bool.and_false, Bool.not_not, dTrue, dFalse, Int.toNat_natCast, List.length_append, List.length_cons, List.length_nil, meet_self]
    refine H true _ _ ⟨h1, h2, h3, by rw [List.length_set]; exact h4, by rw [List.length_set]; exact h5, h6, h7, h8, ?_⟩ ?_ (fun e => by cases e)
    · split <;> omega
    · split <;> omega
  · have hH := H false low ns ⟨h1, h2, h3, h4, h5, h6, h7, h8, h9⟩ (Int.le_refl _) (fun _ => rfl)
    unfold stack_Stack_writev1 stack_Stack_writev1.body
    rw [live_]
    by_cases c2 : a < lo
    · simp (disch := first | omega | (simp only [List.length_append, List.length_cons, List.length_nil, List.length_set, List.length_take, List.length_drop, List.length_replicate]; omega) | fail) only [cond_t, cond_f, dt, df, w64, wu64, w8, ble_t, ble_f, ieqt, ieqf, inet, inef, Bool.not_true, Bool.not_false, Bool.true_and, Bool.and_true, Bool.false_and, Bool.and_false, Bool.not_not, dTrue, dFalse, Int.toNat_natCast, List.length_append, List.length_cons, List.length_nil, meet_self]
      exact hH
    · simp (disch := first | omega | (simp only [List.length_append, List.length_cons, List.length_nil, List.length_set, List.length_take, List.length_drop, List.length_replicate]; omega) | fail) only [cond_t, cond_f, dt, df, w64, wu64, w8, ble_t, ble_f, ieqt, ieqf, inet, inef, Bool.not_true, Bool.not_false, Bool.true_and, Bool.and_true, Bool.false_and, Bool.and_false, Bool.not_not, dTrue, dFalse, Int.toNat_natCast, List.length_append, List.length_cons, List.length_nil, meet_self]
      exact hH
theorem Push_ok (h : Inv lo g hi sp al lim low ns) (n : Int) (K : Bool → KS) (H : Good lo g hi sp al lim low K) : stack_Stack_Pushv1 n lo g hi sp al lim low true ns K = some true := by
  have hh := h
  obtain ⟨h1, h2, h3, h4, h5, h6, h7, h8, h9⟩ := hh
  unfold stack_Stack_Pushv1 stack_Stack_Pushv1.body stack_Stack_aheadv1 stack_Stack_aheadv1.body
  rw [SP_, w64 (n := sp - 1) (by omega) (by omega)]
  by_cases c : lo ≤ sp - 1
  · obtain ⟨low', hw⟩ : ∃ low', low' = (if sp - 1 - lo < low then sp - 1 - lo else low) := ⟨_, rfl⟩
    unfold stack_Stack_writev1 stack_Stack_writev1.body
    rw [live_]
    simp (disch := first | omega | (simp only [List.length_append, List.length_cons, List.length_nil, List.length_set, List.length_take, List.length_drop, List.length_replicate]; omega) | fail) only [cond_t, cond_f, dt, df, w64, wu64, w8, ble_t, ble_f, ieqt, ieqf, inet, inef, Bool.not_true, Bool.not_false, Bool.true_and, Bool.and_true, Bool.false_and, Bool.and_false, Bool.not_not, dTrue, dFalse, Int.toNat_natCast, List.length_append, List.length_cons, List.length_nil, meet_self]
    rw [Store_ ⟨by omega, by omega⟩]
    simp (disch := first | omega | (simp only [List.length_append, List.length_cons, List.length_nil, List.length_set, List.length_take, List.length_drop, List.length_replicate]; omega) | fail) only [cond_t, cond_f, dt, df, w64, wu64, w8, ble_t, ble_f, ieqt, ieqf, inet, inef, Bool.not_true, Bool.not_false, Bool.true_and, Bool.and_true, Bool.false_and, Bool.and_false, Bool.not_not, dTrue, dFalse, Int.toNat_natCast, List.length_append, List.length_cons, List.length_nil, meet_self]
    refine H true _ _ _ _ _ _ _ ⟨h1, h2, h3, by rw [List.length_set]; exact h4, by rw [List.length_set]; exact h5, h6, h7, ⟨by omega, by omega⟩, ?_⟩ ?_ (fun e => by cases e)
    · split <;> omega
    · split <;> omega
  · unfold stack_Stack_writev1 stack_Stack_writev1.body
    rw [live_]
    simp (disch := first | omega | (simp only [List.length_append, List.length_cons, List.length_nil, List.length_set, List.length_take, List.length_drop, List.length_replicate]; omega) | fail) only [cond_t, cond_f, dt, df, w64, wu64, w8, ble_t, ble_f, ieqt, ieqf, inet, inef, Bool.not_true, Bool.not_false, Bool.true_and, Bool.and_true, Bool.false_and, Bool.and_false, Bool.not_not, dTrue, dFalse, Int.toNat_natCast, List.length_append, List.length_cons, List.length_nil, meet_self]
    exact H false _ _ _ _ _ _ _ h (Int.le_refl _) (fun _ => ⟨rfl, rfl, rfl, rfl, rfl⟩)
theorem Spill_ok (h : Inv lo g hi sp al lim low ns) (K : Bool → KS) (H : Good lo g hi sp al lim low K) : stack_Stack_Spillv1 lo g hi sp al lim low true ns K = some true := by
  unfold stack_Stack_Spillv1 stack_Stack_Spillv1.body stack_Stack_aheadv1 stack_Stack_aheadv1.body
  rw [SP_]
  refine write_ok h _ _ _ fun d low' ns' h1 h2 h3 => ?_
  exact H d _ _ _ _ _ _ _ h1 h2 fun e => ⟨rfl, rfl, rfl, rfl, h3 e⟩
theorem Set_ok (h : Inv lo g hi sp al lim low ns) (s n : Int) (K : Bool → KS) (H : Good lo g hi sp al lim low K) : stack_Stack_Setv1 s n lo g hi sp al lim low true ns K = some true := by
  have hh := h
  obtain ⟨h1, h2, h3, h4, h5, h6, h7, h8, h9⟩ := hh
  have hH := H false _ _ _ _ _ _ _ h (Int.le_refl _) (fun _ => ⟨rfl, rfl, rfl, rfl, rfl⟩)
  unfold stack_Stack_Setv1 stack_Stack_Setv1.body stack_Stack_hasv1 stack_Stack_hasv1.body
  by_cases c : s ≥ 0
  · rw [cond_pos (dt c), Id_ ⟨by omega, by omega, by omega, by omega⟩]
    by_cases c2 : s < hi - sp
    · simp (disch := first | omega | (simp only [List.length_append, List.length_cons, List.length_nil, List.length_set, List.length_take, List.length_drop, List.length_replicate]; omega) | fail) only [cond_t, cond_f, dt, df, w64, wu64, w8, ble_t, ble_f, ieqt, ieqf, inet, inef, Bool.not_true, Bool.not_false, Bool.true_and, Bool.and_true, Bool.false_and, Bool.and_false, Bool.not_not, dTrue, dFalse, Int.toNat_natCast, List.length_append, List.length_cons, List.length_nil, meet_self]
      refine write_ok h _ _ _ fun d low' ns' h1 h2 h3 => ?_
      exact H d _ _ _ _ _ _ _ h1 h2 fun e => ⟨rfl, rfl, rfl, rfl, h3 e⟩
    · simp (disch := first | omega | (simp only [List.length_append, List.length_cons, List.length_nil, List.length_set, List.length_take, List.length_drop, List.length_replicate]; omega) | fail) only [cond_t, cond_f, dt, df, w64, wu64, w8, ble_t, ble_f, ieqt, ieqf, inet, inef, Bool.not_true, Bool.not_false, Bool.true_and, Bool.and_true, Bool.false_and, Bool.and_false, Bool.not_not, dTrue, dFalse, Int.toNat_natCast, List.length_append, List.length_cons, List.length_nil, meet_self]
      exact hH
  · simp (disch := first | omega | (simp only [List.length_append, List.length_cons, List.length_nil, List.length_set, List.length_take, List.length_drop, List.length_replicate]; omega) | fail) only [cond_t, cond_f, dt, df, w64, wu64, w8, ble_t, ble_f, ieqt, ieqf, inet, inef, Bool.not_true, Bool.not_false, Bool.true_and, Bool.and_true, Bool.false_and, Bool.and_false, Bool.not_not, dTrue, dFalse, Int.toNat_natCast, List.length_append, List.length_cons, List.length_nil, meet_self]
    exact hH
theorem Pop_ok (h : Inv lo g hi sp al lim low ns) (K : Int → Bool → KS) (H : ∀ n, Good lo g hi sp al lim low (K n)) : stack_Stack_Popv1 lo g hi sp al lim low true ns K = some true := by
  have hh := h
  obtain ⟨h1, h2, h3, h4, h5, h6, h7, h8, h9⟩ := hh
  by_cases c : sp < hi
  · rw [Pop_ ⟨by omega, c⟩ h2 h4 (by omega)]
    exact H _ true _ _ _ _ _ _ _ ⟨h1, h2, h3, h4, h5, h6, h7, ⟨by omega, by omega⟩, h9⟩ (Int.le_refl _) (fun e => by cases e)
  · rw [Pop0_ (by omega) h2 (by omega) h4 (by omega)]
    exact H _ false _ _ _ _ _ _ _ h (Int.le_refl _) (fun _ => ⟨rfl, rfl, rfl, rfl, rfl⟩)
theorem may_ (a r : Int) (k : Bool → KS) : stack_Stack_mayv1 a r lo g hi sp al lim low true ns k = k (decide (0 ≤ a ∧ a ≤ r)) lo g hi sp al lim low true ns := by
  unfold stack_Stack_mayv1 stack_Stack_mayv1.body
  rw [live_]
  by_cases c : a ≥ 0
  · by_cases c2 : a ≤ r
    · simp (disch := first | omega | (simp only [List.length_append, List.length_cons, List.length_nil, List.length_set, List.length_take, List.length_drop, List.length_replicate]; omega) | fail) only [cond_t, cond_f, dt, df, w64, wu64, w8, ble_t, ble_f, ieqt, ieqf, inet, inef, Bool.not_true, Bool.not_false, Bool.true_and, Bool.and_true, Bool.false_and, Bool.and_false, Bool.not_not, dTrue, dFalse, Int.toNat_natCast, List.length_append, List.length_cons, List.length_nil, meet_self]
    · simp (disch := first | omega | (simp only [List.length_append, List.length_cons, List.length_nil, List.length_set, List.length_take, List.length_drop, List.length_replicate]; omega) | fail) only [cond_t, cond_f, dt, df, w64, wu64, w8, ble_t, ble_f, ieqt, ieqf, inet, inef, Bool.not_true, Bool.not_false, Bool.true_and, Bool.and_true, Bool.false_and, Bool.and_false, Bool.not_not, dTrue, dFalse, Int.toNat_natCast, List.length_append, List.length_cons, List.length_nil, meet_self]
  · simp (disch := first | omega | (simp only [List.length_append, List.length_cons, List.length_nil, List.length_set, List.length_take, List.length_drop, List.length_replicate]; omega) | fail) only [cond_t, cond_f, dt, df, w64, wu64, w8, ble_t, ble_f, ieqt, ieqf, inet, inef, Bool.not_true, Bool.not_false, Bool.true_and, Bool.and_true, Bool.false_and, Bool.and_false, Bool.not_not, dTrue, dFalse, Int.toNat_natCast, List.length_append, List.length_cons, List.length_nil, meet_self]
theorem Down_ok (h : Inv lo g hi sp al lim low ns) (a : Int) (K : Bool → KS) (H : Good lo g hi sp al lim low K) : stack_Stack_Downv1 a lo g hi sp al lim low true ns K = some true := by
  have hh := h
  obtain ⟨h1, h2, h3, h4, h5, h6, h7, h8, h9⟩ := hh
  unfold stack_Stack_Downv1 stack_Stack_Downv1.body
  rw [SP_, Seg_, w64 (n := sp - (lo, g, hi, ()).1) (by dsimp only; omega) (by dsimp only; omega), may_]
  by_cases c : 0 ≤ a ∧ a ≤ sp - lo
  · simp (disch := first | omega | (simp only [List.length_append, List.length_cons, List.length_nil, List.length_set, List.length_take, List.length_drop, List.length_replicate]; omega) | fail) only [cond_t, cond_f, dt, df, w64, wu64, w8, ble_t, ble_f, ieqt, ieqf, inet, inef, Bool.not_true, Bool.not_false, Bool.true_and, Bool.and_true, Bool.false_and, Bool.and_false, Bool.not_not, dTrue, dFalse, Int.toNat_natCast, List.length_append, List.length_cons, List.length_nil, meet_self]
    exact H true _ _ _ _ _ _ _ ⟨h1, h2, h3, h4, h5, h6, h7, ⟨by omega, by omega⟩, h9⟩ (Int.le_refl _) (fun e => by cases e)
  · simp (disch := first | omega | (simp only [List.length_append, List.length_cons, List.length_nil, List.length_set, List.length_take, List.length_drop, List.length_replicate]; omega) | fail) only [cond_t, cond_f, dt, df, w64, wu64, w8, ble_t, ble_f, ieqt, ieqf, inet, inef, Bool.not_true, Bool.not_false, Bool.true_and, Bool.and_true, Bool.false_and, Bool.and_false, Bool.not_not, dTrue, dFalse, Int.toNat_natCast, List.length_append, List.length_cons, List.length_nil, meet_self]
    exact H false _ _ _ _ _ _ _ h (Int.le_refl _) (fun _ => ⟨rfl, rfl, rfl, rfl, rfl⟩)
theorem Up_ok (h : Inv lo g hi sp al lim low ns) (a : Int) (K : Bool → KS) (H : Good lo g hi sp al lim low K) : stack_Stack_Upv1 a lo g hi sp al lim low true ns K = some true := by
  have hh := h
  obtain ⟨h1, h2, h3, h4, h5, h6, h7, h8, h9⟩ := hh
  unfold stack_Stack_Upv1 stack_Stack_Upv1.body
  rw [Id_ ⟨by omega, by omega, by omega, by omega⟩, may_]
  by_cases c : 0 ≤ a ∧ a ≤ hi - sp
  · simp (disch := first | omega | (simp only [List.length_append, List.length_cons, List.length_nil, List.length_set, List.length_take, List.length_drop, List.length_replicate]; omega) | fail) only [cond_t, cond_f, dt, df, w64, wu64, w8, ble_t, ble_f, ieqt, ieqf, inet, inef, Bool.not_true, Bool.not_false, Bool.true_and, Bool.and_true, Bool.false_and, Bool.and_false, Bool.not_not, dTrue, dFalse, Int.toNat_natCast, List.length_append, List.length_cons, List.length_nil, meet_self]
    exact H true _ _ _ _ _ _ _ ⟨h1, h2, h3, h4, h5, h6, h7, ⟨by omega, by omega⟩, h9⟩ (Int.le_refl _) (fun e => by cases e)
  · simp (disch := first | omega | (simp only [List.length_append, List.length_cons, List.length_nil, List.length_set, List.length_take, List.length_drop, List.length_replicate]; omega) | fail) only [cond_t, cond_f, dt, df, w64, wu64, w8, ble_t, ble_f, ieqt, ieqf, inet, inef, Bool.not_true, Bool.not_false, Bool.true_and, Bool.and_true, Bool.false_and, Bool.and_false, Bool.not_not, dTrue, dFalse, Int.toNat_natCast, List.length_append, List.length_cons, List.length_nil, meet_self]
    exact H false _ _ _ _ _ _ _ h (Int.le_refl _) (fun _ => ⟨rfl, rfl, rfl, rfl, rfl⟩)
theorem Grow_ok (h : Inv lo g hi sp al lim low ns) (f : Int) (k1 k2 : Bool → KS) (H1 : Good lo g hi sp al lim low k1) (H2 : Good lo g hi sp al lim low k2) : stack_Stack_Growv1 f lo g hi sp al lim low true ns k1 k2 = some true := by
  have hh := h
  obtain ⟨hg, h0, hsz, htop, hall, hcap, hlim, hsp, hlow⟩ := hh
  have hH := H1 false _ _ _ _ _ _ _ h (Int.le_refl _) (fun _ => ⟨rfl, rfl, rfl, rfl, rfl⟩)
  unfold stack_Stack_Growv1 stack_Stack_Growv1.body
  rw [live_]
  by_cases cf : f > 1048576
  · simp (disch := first | omega | (simp only [List.length_append, List.length_cons, List.length_nil, List.length_set, List.length_take, List.length_drop, List.length_replicate]; omega) | fail) only [cond_t, cond_f, dt, df, w64, wu64, w8, ble_t, ble_f, ieqt, ieqf, inet, inef, Bool.not_true, Bool.not_false, Bool.true_and, Bool.and_true, Bool.false_and, Bool.and_false, Bool.not_not, dTrue, dFalse, Int.toNat_natCast, List.length_append, List.length_cons, List.length_nil, meet_self]
    exact hH
  · rw [cond_pos (by rfl), cond_neg (df cf), Id_ ⟨by omega, by omega, by omega, by omega⟩]
    obtain ⟨f2, e2, e3⟩ : ∃ f2, f2 = (if f < 0 then 0 else f) ∧ 0 ≤ f2 ∧ f2 ≤ 1048576 := ⟨_, rfl, by split <;> omega, by split <;> omega⟩
    rw [← e2, w64 (n := hi - lo) (by omega) (by omega), w64 (n := 2 * (hi - lo)) (by omega) (by omega), w64 (n := hi - sp + f2) (by omega) (by omega), w64 (n := hi - sp + f2 + 64) (by omega) (by omega)]
    rcases dbl_ (2 * (hi - lo)) (hi - sp + f2 + 64) (by omega) (by omega) _ with ⟨r, h3, h4, h5, h6⟩ | h3
    · refine h6.trans ?_
      rw [cond_pos (by rfl), w64 (n := lim - al) (by omega) (by omega)]
      by_cases c : r > lim - al
      · rw [cond_pos (dt c)]
        exact hH
      · rw [cond_neg (df c), mgrow_ (by omega) (by omega)]
        rw [cond_neg (by rfl)]
        unfold stack_segment stack_segment.body
        have hlen : (ns ++ List.replicate r.toNat 0).length = ns.length + r.toNat := by simp
        rw [w64 (n := (ns.length : Int) + 64) (by omega) (by omega), w64 (n := (ns.length : Int) + r) (by omega) (by omega)]
        simp only
        rw [w64 (n := (ns.length : Int) + r - (hi - sp)) (by omega) (by omega), copy_ (by omega) ⟨by omega, by omega⟩ ⟨by omega, by omega⟩ (by omega), w64 (n := al + r) (by omega) (by omega)]
        have hys : ((List.drop sp.toNat (ns ++ List.replicate r.toNat 0)).take (hi - sp).toNat).length = (hi - sp).toNat := by
          rw [List.length_take, List.length_drop, hlen]
          omega
        refine H2 true _ _ _ _ _ _ _ ⟨rfl, by omega, by omega, ?_, ?_, by omega, hlim, ⟨by omega, by omega⟩, hlow⟩ (Int.le_refl _) (fun e => by cases e)
        · rw [setCells_len _ _ _ (by rw [hys, hlen]; omega), hlen]; omega
        · rw [setCells_len _ _ _ (by rw [hys, hlen]; omega), hlen]; omega
    · refine h3.trans ?_
      rw [cond_neg (by rfl)]
      exact hH
abbrev Mv := Int × Int × Int × Unit
theorem lowL (ms : List Mv) (hm : ms.length ≤ 60) (k1 : Bool → Option Bool) : ∀ (n i : Nat) (lo g hi sp al lim low : Int) (ns : List Int), i ≤ ms.length → ms.length - i < n → Inv lo g hi sp al lim low ns → law39_StackLow_L0v1 n ms low (i : Int) true ns lo g hi sp al lim low k1 (some true) = some true
  | 0, i, _, _, _, _, _, _, _, _, _, h, _ => by omega
  | n + 1, i, lo, g, hi, sp, al, lim, low, ns, h0, h1, hs => by
    rw [law39_StackLow_L0v1]
    unfold law39_StackLow_L0v1.body
    by_cases c : i < ms.length
    · have next : ∀ lo g hi sp al lim low ns, Inv lo g hi sp al lim low ns → law39_StackLow_L0v1 n ms low (IntKind.wrap .i64 ((i : Int) + 1)) true ns lo g hi sp al lim low k1 (some true) = some true := fun lo g hi sp al lim low ns h => by
        rw [w64 (n := (i : Int) + 1) (by omega) (by omega)]
        exact lowL ms hm k1 n (i + 1) lo g hi sp al lim low ns (by omega) (by omega) h
      rw [cond_pos (dt (by omega)), cond_pos (by simp; omega), SP_, Seg_]
      generalize List.getD ms ((i : Int)).toNat ((0 : Int), ((0 : Int), ((0 : Int), ()))) = x
      by_cases c0 : x.1 = 0
      · rw [cond_pos (ieqt c0)]
        refine Push_ok hs _ _ (fun d lo' g' hi' sp' al' low' ns' hi2 hlow hsame => ?_)
        obtain ⟨i1, i2, i3, i4, i5, i6, i7, i8, i9⟩ := id hi2
        rw [Low_, cond_pos (not_t (by omega)), Low_, cond_pos (not_t (by omega))]
        cases d with
        | true =>
          rw [cond_neg (by rfl), Low_, Seg_, SP_, cond_pos (not_t (by dsimp only; omega)), SP_, cond_pos (not_t (by dsimp only; omega)), w64 (n := (lo', g', hi', ()).1 + 64) (by dsimp only; omega) (by dsimp only; omega), cond_pos (by rw [inef (by dsimp only; omega)]; rfl), Size_, cond_neg (df (by dsimp only; omega))]
          exact next _ _ _ _ _ _ _ _ hi2
        | false =>
          obtain ⟨e1, e2, e3, e4, e5⟩ := hsame rfl
          subst e1 e2 e3 e4 e5
          rw [cond_pos (by rfl), SP_, cond_pos (by rw [inef rfl]; rfl), Seg_, cond_pos (by simp), Low_, cond_neg (inef rfl), Low_, Seg_, SP_, cond_pos (not_t (by dsimp only; omega)), SP_, cond_pos (not_t (by dsimp only; omega)), w64 (n := (lo', g', hi', ()).1 + 64) (by dsimp only; omega) (by dsimp only; omega), cond_pos (by rw [inef (by dsimp only; omega)]; rfl), Size_, cond_neg (df (by dsimp only; omega))]
          exact next _ _ _ _ _ _ _ _ hi2
      · rw [cond_neg (ieqf c0)]
        by_cases c1 : x.1 = 1
        · rw [cond_pos (ieqt c1)]
          refine Pop_ok hs _ fun v d lo' g' hi' sp' al' low' ns' hi2 hlow hsame => ?_
          obtain ⟨i1, i2, i3, i4, i5, i6, i7, i8, i9⟩ := id hi2
          rw [Low_, cond_pos (not_t (by omega)), Low_, cond_pos (not_t (by omega))]
          cases d with
          | true =>
            rw [cond_neg (by rfl), Low_, Seg_, SP_, cond_pos (not_t (by dsimp only; omega)), SP_, cond_pos (not_t (by dsimp only; omega)), w64 (n := (lo', g', hi', ()).1 + 64) (by dsimp only; omega) (by dsimp only; omega), cond_pos (by rw [inef (by dsimp only; omega)]; rfl), Size_, cond_neg (df (by dsimp only; omega))]
            exact next _ _ _ _ _ _ _ _ hi2
          | false =>
            obtain ⟨e1, e2, e3, e4, e5⟩ := hsame rfl
            subst e1 e2 e3 e4 e5
            rw [cond_pos (by rfl), SP_, cond_pos (by rw [inef rfl]; rfl), Seg_, cond_pos (by simp), Low_, cond_neg (inef rfl), Low_, Seg_, SP_, cond_pos (not_t (by dsimp only; omega)), SP_, cond_pos (not_t (by dsimp only; omega)), w64 (n := (lo', g', hi', ()).1 + 64) (by dsimp only; omega) (by dsimp only; omega), cond_pos (by rw [inef (by dsimp only; omega)]; rfl), Size_, cond_neg (df (by dsimp only; omega))]
            exact next _ _ _ _ _ _ _ _ hi2
        · rw [cond_neg (ieqf c1)]
          by_cases c2 : x.1 = 2
          · rw [cond_pos (ieqt c2)]
            refine Down_ok hs _ _ (fun d lo' g' hi' sp' al' low' ns' hi2 hlow hsame => ?_)
            obtain ⟨i1, i2, i3, i4, i5, i6, i7, i8, i9⟩ := id hi2
            rw [Low_, cond_pos (not_t (by omega)), Low_, cond_pos (not_t (by omega))]
            cases d with
            | true =>
              rw [cond_neg (by rfl), Low_, Seg_, SP_, cond_pos (not_t (by dsimp only; omega)), SP_, cond_pos (not_t (by dsimp only; omega)), w64 (n := (lo', g', hi', ()).1 + 64) (by dsimp only; omega) (by dsimp only; omega), cond_pos (by rw [inef (by dsimp only; omega)]; rfl), Size_, cond_neg (df (by dsimp only; omega))]
              exact next _ _ _ _ _ _ _ _ hi2
            | false =>
              obtain ⟨e1, e2, e3, e4, e5⟩ := hsame rfl
              subst e1 e2 e3 e4 e5
              rw [cond_pos (by rfl), SP_, cond_pos (by rw [inef rfl]; rfl), Seg_, cond_pos (by simp), Low_, cond_neg (inef rfl), Low_, Seg_, SP_, cond_pos (not_t (by dsimp only; omega)), SP_, cond_pos (not_t (by dsimp only; omega)), w64 (n := (lo', g', hi', ()).1 + 64) (by dsimp only; omega) (by dsimp only; omega), cond_pos (by rw [inef (by dsimp only; omega)]; rfl), Size_, cond_neg (df (by dsimp only; omega))]
              exact next _ _ _ _ _ _ _ _ hi2
          · rw [cond_neg (ieqf c2)]
            by_cases c3 : x.1 = 3
            · rw [cond_pos (ieqt c3)]
              refine Up_ok hs _ _ (fun d lo' g' hi' sp' al' low' ns' hi2 hlow hsame => ?_)
              obtain ⟨i1, i2, i3, i4, i5, i6, i7, i8, i9⟩ := id hi2
              rw [Low_, cond_pos (not_t (by omega)), Low_, cond_pos (not_t (by omega))]
              cases d with
              | true =>
                rw [cond_neg (by rfl), Low_, Seg_, SP_, cond_pos (not_t (by dsimp only; omega)), SP_, cond_pos (not_t (by dsimp only; omega)), w64 (n := (lo', g', hi', ()).1 + 64) (by dsimp only; omega) (by dsimp only; omega), cond_pos (by rw [inef (by dsimp only; omega)]; rfl), Size_, cond_neg (df (by dsimp only; omega))]
                exact next _ _ _ _ _ _ _ _ hi2
              | false =>
                obtain ⟨e1, e2, e3, e4, e5⟩ := hsame rfl
                subst e1 e2 e3 e4 e5
                rw [cond_pos (by rfl), SP_, cond_pos (by rw [inef rfl]; rfl), Seg_, cond_pos (by simp), Low_, cond_neg (inef rfl), Low_, Seg_, SP_, cond_pos (not_t (by dsimp only; omega)), SP_, cond_pos (not_t (by dsimp only; omega)), w64 (n := (lo', g', hi', ()).1 + 64) (by dsimp only; omega) (by dsimp only; omega), cond_pos (by rw [inef (by dsimp only; omega)]; rfl), Size_, cond_neg (df (by dsimp only; omega))]
                exact next _ _ _ _ _ _ _ _ hi2
            · rw [cond_neg (ieqf c3)]
              by_cases c5 : x.1 = 5
              · rw [cond_pos (ieqt c5)]
                refine Set_ok hs _ _ _ (fun d lo' g' hi' sp' al' low' ns' hi2 hlow hsame => ?_)
                obtain ⟨i1, i2, i3, i4, i5, i6, i7, i8, i9⟩ := id hi2
                rw [Low_, cond_pos (not_t (by omega)), Low_, cond_pos (not_t (by omega))]
                cases d with
                | true =>
                  rw [cond_neg (by rfl), Low_, Seg_, SP_, cond_pos (not_t (by dsimp only; omega)), SP_, cond_pos (not_t (by dsimp only; omega)), w64 (n := (lo', g', hi', ()).1 + 64) (by dsimp only; omega) (by dsimp only; omega), cond_pos (by rw [inef (by dsimp only; omega)]; rfl), Size_, cond_neg (df (by dsimp only; omega))]
                  exact next _ _ _ _ _ _ _ _ hi2
                | false =>
                  obtain ⟨e1, e2, e3, e4, e5⟩ := hsame rfl
                  subst e1 e2 e3 e4 e5
                  rw [cond_pos (by rfl), SP_, cond_pos (by rw [inef rfl]; rfl), Seg_, cond_pos (by simp), Low_, cond_neg (inef rfl), Low_, Seg_, SP_, cond_pos (not_t (by dsimp only; omega)), SP_, cond_pos (not_t (by dsimp only; omega)), w64 (n := (lo', g', hi', ()).1 + 64) (by dsimp only; omega) (by dsimp only; omega), cond_pos (by rw [inef (by dsimp only; omega)]; rfl), Size_, cond_neg (df (by dsimp only; omega))]
                  exact next _ _ _ _ _ _ _ _ hi2
              · rw [cond_neg (ieqf c5)]
                by_cases c6 : x.1 = 6
                · rw [cond_pos (ieqt c6)]
                  refine Spill_ok hs _ (fun d lo' g' hi' sp' al' low' ns' hi2 hlow hsame => ?_)
                  obtain ⟨i1, i2, i3, i4, i5, i6, i7, i8, i9⟩ := id hi2
                  rw [Low_, cond_pos (not_t (by omega)), Low_, cond_pos (not_t (by omega))]
                  cases d with
                  | true =>
                    rw [cond_neg (by rfl), Low_, Seg_, SP_, cond_pos (not_t (by dsimp only; omega)), SP_, cond_pos (not_t (by dsimp only; omega)), w64 (n := (lo', g', hi', ()).1 + 64) (by dsimp only; omega) (by dsimp only; omega), cond_pos (by rw [inef (by dsimp only; omega)]; rfl), Size_, cond_neg (df (by dsimp only; omega))]
                    exact next _ _ _ _ _ _ _ _ hi2
                  | false =>
                    obtain ⟨e1, e2, e3, e4, e5⟩ := hsame rfl
                    subst e1 e2 e3 e4 e5
                    rw [cond_pos (by rfl), SP_, cond_pos (by rw [inef rfl]; rfl), Seg_, cond_pos (by simp), Low_, cond_neg (inef rfl), Low_, Seg_, SP_, cond_pos (not_t (by dsimp only; omega)), SP_, cond_pos (not_t (by dsimp only; omega)), w64 (n := (lo', g', hi', ()).1 + 64) (by dsimp only; omega) (by dsimp only; omega), cond_pos (by rw [inef (by dsimp only; omega)]; rfl), Size_, cond_neg (df (by dsimp only; omega))]
                    exact next _ _ _ _ _ _ _ _ hi2
                · rw [cond_neg (ieqf c6)]
                  refine Grow_ok hs _ _ _ (fun d lo' g' hi' sp' al' low' ns' hi2 hlow hsame => ?_) (fun d lo' g' hi' sp' al' low' ns' hi2 hlow hsame => ?_)
                  · obtain ⟨i1, i2, i3, i4, i5, i6, i7, i8, i9⟩ := id hi2
                    rw [Low_, cond_pos (not_t (by omega)), Low_, cond_pos (not_t (by omega))]
                    cases d with
                    | true =>
                      rw [cond_neg (by rfl), Low_, Seg_, SP_, cond_pos (not_t (by dsimp only; omega)), SP_, cond_pos (not_t (by dsimp only; omega)), w64 (n := (lo', g', hi', ()).1 + 64) (by dsimp only; omega) (by dsimp only; omega), cond_pos (by rw [inef (by dsimp only; omega)]; rfl), Size_, cond_neg (df (by dsimp only; omega))]
                      exact next _ _ _ _ _ _ _ _ hi2
                    | false =>
                      obtain ⟨e1, e2, e3, e4, e5⟩ := hsame rfl
                      subst e1 e2 e3 e4 e5
                      rw [cond_pos (by rfl), SP_, cond_pos (by rw [inef rfl]; rfl), Seg_, cond_pos (by simp), Low_, cond_neg (inef rfl), Low_, Seg_, SP_, cond_pos (not_t (by dsimp only; omega)), SP_, cond_pos (not_t (by dsimp only; omega)), w64 (n := (lo', g', hi', ()).1 + 64) (by dsimp only; omega) (by dsimp only; omega), cond_pos (by rw [inef (by dsimp only; omega)]; rfl), Size_, cond_neg (df (by dsimp only; omega))]
                      exact next _ _ _ _ _ _ _ _ hi2
                  · obtain ⟨i1, i2, i3, i4, i5, i6, i7, i8, i9⟩ := id hi2
                    rw [Low_, cond_pos (not_t (by omega)), Low_, cond_pos (not_t (by omega))]
                    cases d with
                    | true =>
                      rw [cond_neg (by rfl), Low_, Seg_, SP_, cond_pos (not_t (by dsimp only; omega)), SP_, cond_pos (not_t (by dsimp only; omega)), w64 (n := (lo', g', hi', ()).1 + 64) (by dsimp only; omega) (by dsimp only; omega), cond_pos (by rw [inef (by dsimp only; omega)]; rfl), Size_, cond_neg (df (by dsimp only; omega))]
                      exact next _ _ _ _ _ _ _ _ hi2
                    | false =>
                      obtain ⟨e1, e2, e3, e4, e5⟩ := hsame rfl
                      subst e1 e2 e3 e4 e5
                      rw [cond_pos (by rfl), SP_, cond_pos (by rw [inef rfl]; rfl), Seg_, cond_pos (by simp), Low_, cond_neg (inef rfl), Low_, Seg_, SP_, cond_pos (not_t (by dsimp only; omega)), SP_, cond_pos (not_t (by dsimp only; omega)), w64 (n := (lo', g', hi', ()).1 + 64) (by dsimp only; omega) (by dsimp only; omega), cond_pos (by rw [inef (by dsimp only; omega)]; rfl), Size_, cond_neg (df (by dsimp only; omega))]
                      exact next _ _ _ _ _ _ _ _ hi2
    · obtain rfl : i = ms.length := by omega
      simp (disch := first | omega | (simp only [List.length_append, List.length_cons, List.length_nil, List.length_set, List.length_take, List.length_drop, List.length_replicate]; omega) | fail) only [cond_t, cond_f, dt, df, w64, wu64, w8, ble_t, ble_f, ieqt, ieqf, inet, inef, Bool.not_true, Bool.not_false, Bool.true_and, Bool.and_true, Bool.false_and, Bool.and_false, Bool.not_not, dTrue, dFalse, Int.toNat_natCast, List.length_append, List.length_cons, List.length_nil, meet_self]
theorem mnew_ (k : Bool → List Int → Option Bool) : memory_New k = k true [] := by
  unfold memory_New memory_New.body slices_Clone_int64_int64 slices_Clone_int64_int64.body
  rfl
theorem snew0_ {lim : Int} (h : lim < 128) (k1 : Bool → Bool → List Int → Option Bool) (k2 : Bool → Bool → List Int → Int → Int → Int → Int → Int → Int → Int → Option Bool) (k3 : Bool → Bool → List Int → Option Bool) (k4 : Bool → Bool → List Int → Int → Int → Int → Int → Int → Int → Int → Option Bool) : stack_New lim true [] k1 k2 k3 k4 = k1 false true [] := by
  unfold stack_New stack_New.body
  rw [cond_pos (dt h)]
theorem snew_ {lim : Int} (h : 128 ≤ lim) (k1 : Bool → Bool → List Int → Option Bool) (k2 : Bool → Bool → List Int → Int → Int → Int → Int → Int → Int → Int → Option Bool) (k3 : Bool → Bool → List Int → Option Bool) (k4 : Bool → Bool → List Int → Int → Int → Int → Int → Int → Int → Int → Option Bool) : stack_New lim true [] k1 k2 k3 k4 = k4 true true ([] ++ List.replicate (128 : Int).toNat 0) 0 64 128 128 128 lim 128 := by
  unfold stack_New stack_New.body
  rw [cond_neg (df (by omega)), mgrow_ (by omega) (by simp), cond_neg (by rfl)]
  unfold stack_segment stack_segment.body
  rw [w64 (n := (([] : List Int).length : Int) + 64) (by simp) (by simp), w64 (n := (([] : List Int).length : Int) + 128) (by simp) (by simp)]
  rfl
theorem holds (lim : Int) (ms : List Mv) (h0 : okD (.int .i64) lim) (h1 : okD (.sl 47 (.st [(.int .i64), (.int .i64), (.int .i64)])) ms) : law39_StackLow lim ms (fun y => some y) = some true := by
  unfold law39_StackLow law39_StackLow.body law39_known
  by_cases c1 : (ms.length : Int) > 60
  · simp (disch := first | omega | (simp only [List.length_append, List.length_cons, List.length_nil, List.length_set, List.length_take, List.length_drop, List.length_replicate]; omega) | fail) only [cond_t, cond_f, dt, df, w64, wu64, w8, ble_t, ble_f, ieqt, ieqf, inet, inef, Bool.not_true, Bool.not_false, Bool.true_and, Bool.and_true, Bool.false_and, Bool.and_false, Bool.not_not, dTrue, dFalse, Int.toNat_natCast, List.length_append, List.length_cons, List.length_nil, meet_self]
  · by_cases c2 : lim > 3000
    · simp (disch := first | omega | (simp only [List.length_append, List.length_cons, List.length_nil, List.length_set, List.length_take, List.length_drop, List.length_replicate]; omega) | fail) only [cond_t, cond_f, dt, df, w64, wu64, w8, ble_t, ble_f, ieqt, ieqf, inet, inef, Bool.not_true, Bool.not_false, Bool.true_and, Bool.and_true, Bool.false_and, Bool.and_false, Bool.not_not, dTrue, dFalse, Int.toNat_natCast, List.length_append, List.length_cons, List.length_nil, meet_self]
    · simp (disch := first | omega | (simp only [List.length_append, List.length_cons, List.length_nil, List.length_set, List.length_take, List.length_drop, List.length_replicate]; omega) | fail) only [cond_t, cond_f, dt, df, w64, wu64, w8, ble_t, ble_f, ieqt, ieqf, inet, inef, Bool.not_true, Bool.not_false, Bool.true_and, Bool.and_true, Bool.false_and, Bool.and_false, Bool.not_not, dTrue, dFalse, Int.toNat_natCast, List.length_append, List.length_cons, List.length_nil, meet_self]
      rw [mnew_]
      by_cases c3 : lim < 128
      · rw [snew0_ c3, cond_pos (by rfl)]
      · rw [snew_ (by omega), cond_neg (by rfl), Low_]
        have hst : Inv 0 64 128 128 128 lim 128 ([] ++ List.replicate (128 : Int).toNat 0) := ⟨rfl, by omega, by omega, by simp, by simp, by omega, by omega, ⟨by omega, by omega⟩, by omega, by omega⟩
        exact lowL ms (by omega) _ ROUNDS 0 0 64 128 128 128 lim 128 _ (by omega) (by unfold ROUNDS; omega) hst

end Go.Proofs.Ytefhednjdlblpaa.stackLow
