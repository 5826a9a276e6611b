/- What the plain functions answer: the law, without program or memory. -/
import Derived.Test.YtefhednjdlblpaaMP
import Derived.IntWalk
import Derived.Laws.Strings
namespace Go.Proofs.Ytefhednjdlblpaa.stackPlays
open Go.AX Go.Proofs.Ytefhednjdlblpaa.p
set_option linter.unusedVariables false
set_option linter.unusedSimpArgs false
theorem cond_ite (b : Bool) (x y : Option Bool) : cond_ b x y = if b = true then x else y := by cases b <;> rfl
@[simp] theorem cond_t (x y : Option Bool) : cond_ true x y = x := (cond_ite true x y).trans (if_pos rfl)
@[simp] theorem cond_f (x y : Option Bool) : cond_ false x y = y := (cond_ite false x y).trans (if_neg (by decide))
theorem cond_pos {b : Bool} {x y : Option Bool} (h : b = true) : cond_ b x y = x := by rw [h]; rfl
theorem cond_neg {b : Bool} {x y : Option Bool} (h : b = false) : cond_ b x y = y := by rw [h]; rfl
@[simp] theorem meet_self (x : Option Bool) : meet x x = x := by
  cases x with
  | none => rfl
  | some a => simp [meet]
theorem w64 {n : Int} (h1 : -9223372036854775808 ≤ n) (h2 : n ≤ 9223372036854775807) : IntKind.wrap .i64 n = n := IntWalk.i64_in n ⟨h1, h2⟩
theorem w8 {n : Int} (h1 : 0 ≤ n) (h2 : n ≤ 255) : IntKind.wrap .u8 n = n := IntWalk.u8_in n ⟨h1, h2⟩
theorem wu64 {n : Int} (h1 : 0 ≤ n) (h2 : n ≤ 18446744073709551615) : IntKind.wrap .u64 n = n := IntWalk.u64_in n ⟨h1, h2⟩
theorem ble_t {a b : Nat} (h : a ≤ b) : Nat.ble a b = true := by rw [Nat.ble_eq]; exact h
theorem ok64 {n : Int} (h : okD (.int .i64) n) : -9223372036854775808 ≤ n ∧ n ≤ 9223372036854775807 := by
  have := okD_int.1 h
  simpa [Lit.wf, IntKind.min, IntKind.max, IntKind.bits, IntKind.signed, i_] using this
theorem not_t {p : Prop} [Decidable p] (h : ¬p) : (!decide p) = true := by simp [h]
theorem not_f {p : Prop} [Decidable p] (h : p) : (!decide p) = false := by simp [h]
theorem cond_congr {b c : Bool} (h : b = c) (x y : Option Bool) : cond_ b x y = cond_ c x y := by rw [h]
attribute [local congr] cond_congr
theorem dt {p : Prop} [Decidable p] (h : p) : decide p = true := decide_eq_true h
theorem df {p : Prop} [Decidable p] (h : ¬p) : decide p = false := decide_eq_false h
theorem ieqt {a b : Int} (h : a = b) : (a == b) = true := by simp [h]
theorem ieqf {a b : Int} (h : a ≠ b) : (a == b) = false := by simp [h]
theorem inet {a b : Int} (h : a ≠ b) : (a != b) = true := by simp [h]
theorem inef {a b : Int} (h : a = b) : (a != b) = false := by simp [h]
theorem ble_f {a b : Nat} (h : b < a) : Nat.ble a b = false := by
  cases hb : Nat.ble a b with
  | false => rfl
  | true => rw [Nat.ble_eq] at hb; omega
theorem rounds_ : ∃ R, ROUNDS = R ∧ 1000000000 ≤ R := ⟨ROUNDS, rfl, by unfold ROUNDS; omega⟩
theorem dTrue {i : Decidable True} : decide True = true := dt trivial
theorem dFalse {i : Decidable False} : decide False = false := df fun h => h
theorem if_iff {α : Type} {p q : Prop} [Decidable p] [Decidable q] (h : p ↔ q) (a b : α) : (if p then a else b) = (if q then a else b) := by
  by_cases hp : p
  · rw [if_pos hp, if_pos (h.1 hp)]
  · rw [if_neg hp, if_neg (fun g => hp (h.2 g))]
variable {lo g hi sp al lim low a : Int} {ns : List Int}
abbrev KS := Int → Int → Int → Int → Int → Int → Int → Bool → List Int → Option Bool
theorem live_ (k : Bool → KS) : stack_Stack_livev1 lo g hi sp al lim low true ns k = k true lo g hi sp al lim low true ns := by
  unfold stack_Stack_livev1 stack_Stack_livev1.body
  rfl
theorem SP_ (k : Int → KS) : stack_Stack_SPv1 lo g hi sp al lim low true ns k = k sp lo g hi sp al lim low true ns := by
  unfold stack_Stack_SPv1 stack_Stack_SPv1.body
  rw [live_]
  simp (disch := first | omega | (simp only [List.length_append, List.length_cons, List.length_nil, List.length_set, List.length_take, List.length_drop, List.length_replicate]; omega) | fail) only [cond_t, cond_f, dt, df, w64, wu64, w8, ble_t, ble_f, ieqt, ieqf, inet, inef, Bool.not_true, Bool.not_false, Bool.true_and, Bool.and_true, Bool.false_and, Bool.and_false, Bool.not_not, dTrue, dFalse, Int.toNat_natCast, List.length_append, List.length_cons, List.length_nil, meet_self]
theorem Seg_ (k : Int × Int × Int × Unit → KS) : stack_Stack_Segv1 lo g hi sp al lim low true ns k = k (lo, g, hi, ()) lo g hi sp al lim low true ns := by
  unfold stack_Stack_Segv1 stack_Stack_Segv1.body
  rw [live_]
  simp (disch := first | omega | (simp only [List.length_append, List.length_cons, List.length_nil, List.length_set, List.length_take, List.length_drop, List.length_replicate]; omega) | fail) only [cond_t, cond_f, dt, df, w64, wu64, w8, ble_t, ble_f, ieqt, ieqf, inet, inef, Bool.not_true, Bool.not_false, Bool.true_and, Bool.and_true, Bool.false_and, Bool.and_false, Bool.not_not, dTrue, dFalse, Int.toNat_natCast, List.length_append, List.length_cons, List.length_nil, meet_self]
theorem Id_ (h : 0 ≤ sp ∧ sp ≤ 5000000 ∧ 0 ≤ hi ∧ hi ≤ 5000000) (k : Int → KS) : stack_Stack_Idv1 lo g hi sp al lim low true ns k = k (hi - sp) lo g hi sp al lim low true ns := by
  unfold stack_Stack_Idv1 stack_Stack_Idv1.body
  rw [Seg_, SP_]
  simp (disch := first | omega | (simp only [List.length_append, List.length_cons, List.length_nil, List.length_set, List.length_take, List.length_drop, List.length_replicate]; omega) | fail) only [cond_t, cond_f, dt, df, w64, wu64, w8, ble_t, ble_f, ieqt, ieqf, inet, inef, Bool.not_true, Bool.not_false, Bool.true_and, Bool.and_true, Bool.false_and, Bool.and_false, Bool.not_not, dTrue, dFalse, Int.toNat_natCast, List.length_append, List.length_cons, List.length_nil, meet_self]
theorem Size_ (k : Int → Bool → List Int → Option Bool) : memory_Memory_Size true ns k = k (ns.length : Int) true ns := by
  unfold memory_Memory_Size memory_Memory_Size.body
  simp (disch := first | omega | (simp only [List.length_append, List.length_cons, List.length_nil, List.length_set, List.length_take, List.length_drop, List.length_replicate]; omega) | fail) only [cond_t, cond_f, dt, df, w64, wu64, w8, ble_t, ble_f, ieqt, ieqf, inet, inef, Bool.not_true, Bool.not_false, Bool.true_and, Bool.and_true, Bool.false_and, Bool.and_false, Bool.not_not, dTrue, dFalse, Int.toNat_natCast, List.length_append, List.length_cons, List.length_nil, meet_self]
theorem Store_ {a : Int} (h : 0 ≤ a ∧ a < (ns.length : Int)) (n : Int) (k : Bool → Bool → List Int → Option Bool) : memory_Memory_Store a n true ns k = k true true (ns.set a.toNat n) := by
  unfold memory_Memory_Store memory_Memory_Store.body memory_Memory_atv1 memory_Memory_atv1.body
  rw [Size_]
  simp (disch := first | omega | (simp only [List.length_append, List.length_cons, List.length_nil, List.length_set, List.length_take, List.length_drop, List.length_replicate]; omega) | fail) only [cond_t, cond_f, dt, df, w64, wu64, w8, ble_t, ble_f, ieqt, ieqf, inet, inef, Bool.not_true, Bool.not_false, Bool.true_and, Bool.and_true, Bool.false_and, Bool.and_false, Bool.not_not, dTrue, dFalse, Int.toNat_natCast, List.length_append, List.length_cons, List.length_nil, meet_self]
  unfold memory_Memory_Storefn1 memory_Memory_Storefn1.body
  rfl
theorem Load_ {a : Int} (h : 0 ≤ a ∧ a < (ns.length : Int)) (k : Int → Bool → Bool → List Int → Option Bool) : memory_Memory_Load a true ns k = k (ns.getD a.toNat 0) true true ns := by
  unfold memory_Memory_Load memory_Memory_Load.body memory_Memory_at memory_Memory_at.body
  rw [Size_]
  simp (disch := first | omega | (simp only [List.length_append, List.length_cons, List.length_nil, List.length_set, List.length_take, List.length_drop, List.length_replicate]; omega) | fail) only [cond_t, cond_f, dt, df, w64, wu64, w8, ble_t, ble_f, ieqt, ieqf, inet, inef, Bool.not_true, Bool.not_false, Bool.true_and, Bool.and_true, Bool.false_and, Bool.and_false, Bool.not_not, dTrue, dFalse, Int.toNat_natCast, List.length_append, List.length_cons, List.length_nil, meet_self]
  unfold memory_Memory_Loadfn1 memory_Memory_Loadfn1.body
  rfl
theorem Low_ (k : Int → KS) : stack_Stack_Lowv1 lo g hi sp al lim low true ns k = k low lo g hi sp al lim low true ns := by
  unfold stack_Stack_Lowv1 stack_Stack_Lowv1.body
  rw [live_]
  simp (disch := first | omega | (simp only [List.length_append, List.length_cons, List.length_nil, List.length_set, List.length_take, List.length_drop, List.length_replicate]; omega) | fail) only [cond_t, cond_f, dt, df, w64, wu64, w8, ble_t, ble_f, ieqt, ieqf, inet, inef, Bool.not_true, Bool.not_false, Bool.true_and, Bool.and_true, Bool.false_and, Bool.and_false, Bool.not_not, dTrue, dFalse, Int.toNat_natCast, List.length_append, List.length_cons, List.length_nil, meet_self]
theorem Pop_ (h : lo ≤ sp ∧ sp < hi) (h0 : 0 ≤ lo) (ht : hi ≤ (ns.length : Int)) (hl : ns.length ≤ 4900000) (k : Int → Bool → KS) : stack_Stack_Popv1 lo g hi sp al lim low true ns k = k (ns.getD sp.toNat 0) true lo g hi (sp + 1) al lim low true ns := by
  unfold stack_Stack_Popv1 stack_Stack_Popv1.body stack_Stack_Getv1 stack_Stack_Getv1.body stack_Stack_hasv1 stack_Stack_hasv1.body
  rw [cond_pos (dt (by omega)), Id_ ⟨by omega, by omega, by omega, by omega⟩]
  simp (disch := first | omega | (simp only [List.length_append, List.length_cons, List.length_nil, List.length_set, List.length_take, List.length_drop, List.length_replicate]; omega) | fail) only [cond_t, cond_f, dt, df, w64, wu64, w8, ble_t, ble_f, ieqt, ieqf, inet, inef, Bool.not_true, Bool.not_false, Bool.true_and, Bool.and_true, Bool.false_and, Bool.and_false, Bool.not_not, dTrue, dFalse, Int.toNat_natCast, List.length_append, List.length_cons, List.length_nil, meet_self, Int.add_zero]
  rw [Load_ ⟨by omega, by omega⟩]
  simp (disch := first | omega | (simp only [List.length_append, List.length_cons, List.length_nil, List.length_set, List.length_take, List.length_drop, List.length_replicate]; omega) | fail) only [cond_t, cond_f, dt, df, w64, wu64, w8, ble_t, ble_f, ieqt, ieqf, inet, inef, Bool.not_true, Bool.not_false, Bool.true_and, Bool.and_true, Bool.false_and, Bool.and_false, Bool.not_not, dTrue, dFalse, Int.toNat_natCast, List.length_append, List.length_cons, List.length_nil, meet_self]
theorem Pop0_ (h : sp = hi) (h0 : 0 ≤ lo) (hlo : lo ≤ hi) (ht : hi ≤ (ns.length : Int)) (hl : ns.length ≤ 4900000) (k : Int → Bool → KS) : stack_Stack_Popv1 lo g hi sp al lim low true ns k = k 0 false lo g hi sp al lim low true ns := by
  unfold stack_Stack_Popv1 stack_Stack_Popv1.body stack_Stack_Getv1 stack_Stack_Getv1.body stack_Stack_hasv1 stack_Stack_hasv1.body
  rw [cond_pos (dt (by omega)), Id_ ⟨by omega, by omega, by omega, by omega⟩]
  simp (disch := first | omega | (simp only [List.length_append, List.length_cons, List.length_nil, List.length_set, List.length_take, List.length_drop, List.length_replicate]; omega) | fail) only [cond_t, cond_f, dt, df, w64, wu64, w8, ble_t, ble_f, ieqt, ieqf, inet, inef, Bool.not_true, Bool.not_false, Bool.true_and, Bool.and_true, Bool.false_and, Bool.and_false, Bool.not_not, dTrue, dFalse, Int.toNat_natCast, List.length_append, List.length_cons, List.length_nil, meet_self]
theorem mgrow_ {n : Int} (h : 1 ≤ n) (h2 : n ≤ 4194304 - (ns.length : Int)) (k1 k2 : Int → Bool → Bool → List Int → Option Bool) : memory_Memory_Grow n true ns k1 k2 = k2 (ns.length : Int) true true (ns ++ List.replicate n.toNat 0) := by
  unfold memory_Memory_Grow memory_Memory_Grow.body
  simp (disch := first | omega | (simp only [List.length_append, List.length_cons, List.length_nil, List.length_set, List.length_take, List.length_drop, List.length_replicate]; omega) | fail) only [cond_t, cond_f, dt, df, w64, wu64, w8, ble_t, ble_f, ieqt, ieqf, inet, inef, Bool.not_true, Bool.not_false, Bool.true_and, Bool.and_true, Bool.false_and, Bool.and_false, Bool.not_not, dTrue, dFalse, Int.toNat_natCast, List.length_append, List.length_cons, List.length_nil, meet_self]
theorem copyf_ {a b : Int} (h : 0 ≤ a ∧ a ≤ (ns.length : Int)) (hl : ns.length ≤ 5000000) (h2 : b ≤ (ns.length : Int) - a) (k : Bool → Bool → List Int → Int → Option Bool) : memory_Memory_Copyfn1 a true ns b k = k true true ns b := by
  unfold memory_Memory_Copyfn1 memory_Memory_Copyfn1.body
  simp (disch := first | omega | (simp only [List.length_append, List.length_cons, List.length_nil, List.length_set, List.length_take, List.length_drop, List.length_replicate]; omega) | fail) only [cond_t, cond_f, dt, df, w64, wu64, w8, ble_t, ble_f, ieqt, ieqf, inet, inef, Bool.not_true, Bool.not_false, Bool.true_and, Bool.and_true, Bool.false_and, Bool.and_false, Bool.not_not, dTrue, dFalse, Int.toNat_natCast, List.length_append, List.length_cons, List.length_nil, meet_self]
theorem copy_ {to fr n : Int} (hn : 0 ≤ n) (h1 : 0 ≤ to ∧ to + n ≤ (ns.length : Int)) (h2 : 0 ≤ fr ∧ fr + n ≤ (ns.length : Int)) (hl : ns.length ≤ 5000000) (k : Bool → Bool → List Int → Option Bool) : memory_Memory_Copy to fr n true ns k = k true true (setCells ns to.toNat ((ns.drop fr.toNat).take n.toNat)) := by
  unfold memory_Memory_Copy memory_Memory_Copy.body
  have e : (fr + n - fr).toNat = n.toNat := by omega
  simp (disch := first | omega | (simp only [List.length_append, List.length_cons, List.length_nil, List.length_set, List.length_take, List.length_drop, List.length_replicate]; omega) | fail) only [cond_t, cond_f, dt, df, w64, wu64, w8, ble_t, ble_f, ieqt, ieqf, inet, inef, Bool.not_true, Bool.not_false, Bool.true_and, Bool.and_true, Bool.false_and, Bool.and_false, Bool.not_not, dTrue, dFalse, Int.toNat_natCast, List.length_append, List.length_cons, List.length_nil, meet_self]
  rw [copyf_ ⟨by omega, by omega⟩ hl (by omega)]
  simp (disch := first | omega | (simp only [List.length_append, List.length_cons, List.length_nil, List.length_set, List.length_take, List.length_drop, List.length_replicate]; omega) | fail) only [cond_t, cond_f, dt, df, w64, wu64, w8, ble_t, ble_f, ieqt, ieqf, inet, inef, Bool.not_true, Bool.not_false, Bool.true_and, Bool.and_true, Bool.false_and, Bool.and_false, Bool.not_not, dTrue, dFalse, Int.toNat_natCast, List.length_append, List.length_cons, List.length_nil, meet_self]
  rw [copyf_ ⟨by omega, by omega⟩ hl (by omega)]
  simp (disch := first | omega | (simp only [List.length_append, List.length_cons, List.length_nil, List.length_set, List.length_take, List.length_drop, List.length_replicate]; omega) | fail) only [cond_t, cond_f, dt, df, w64, wu64, w8, ble_t, ble_f, ieqt, ieqf, inet, inef, Bool.not_true, Bool.not_false, Bool.true_and, Bool.and_true, Bool.false_and, Bool.and_false, Bool.not_not, dTrue, dFalse, Int.toNat_natCast, List.length_append, List.length_cons, List.length_nil, meet_self, e]
  congr 1
  rw [List.take_of_length_le]
  rw [List.length_take, List.length_drop]
  omega
theorem setCells_len (xs ys : List Int) (o : Nat) (h : o + ys.length ≤ xs.length) : (setCells xs o ys).length = xs.length := by
  unfold setCells
  simp only [List.length_append, List.length_take, List.length_drop]
  omega


/-- a stack as it may be -/
structure Inv (lo g hi sp al lim low : Int) (ns : List Int) : Prop where
  g_ : g = lo + 64
  lo_ : 0 ≤ lo
  sz : lo + 128 ≤ hi
  top : hi ≤ (ns.length : Int)
  all : al ≤ (ns.length : Int) ∧ (ns.length : Int) ≤ al + 60
  cap : al ≤ lim
  lim_ : lim ≤ 3000
  sp_ : lo ≤ sp ∧ sp ≤ hi
  low_ : 0 ≤ low ∧ low ≤ 128
abbrev T := List Int × Int × Int × Int × Int × Int × Int × Int × Bool × Unit
abbrev tt (lo g hi sp al lim low : Int) (ns : List Int) : T := (ns, lo, g, hi, sp, al, lim, low, true, ())
abbrev mn (x y : Int) : Int := if x < y then x else y
theorem mn_ {x y : Int} (h : 0 ≤ x) (h2 : 0 ≤ y ∧ y ≤ 128) : 0 ≤ mn x y ∧ mn x y ≤ 128 := by
  unfold mn
  split <;> omega
theorem write1 (h : lo ≤ a ∧ a < hi) (h0 : 0 ≤ lo) (ht : hi ≤ (ns.length : Int)) (hl : ns.length ≤ 5000000) (n : Int) (k : Bool → KS) : stack_Stack_writev1 a n lo g hi sp al lim low true ns k = k true lo g hi sp al lim (mn (a - lo) low) true (ns.set a.toNat n) := by
  unfold stack_Stack_writev1 stack_Stack_writev1.body
  rw [live_]
  simp (disch := first | omega | (simp only [List.length_append, List.length_cons, List.length_nil, List.length_set, List.length_take, List.length_drop, List.length_replicate]; omega) | fail) only [cond_t, cond_f, dt, df, w64, wu64, w8, ble_t, ble_f, ieqt, ieqf, inet, inef, Bool.not_true, Bool.not_false, Bool.true_and, Bool.and_true, Bool.false_and, Bool.and_false, Bool.not_not, dTrue, dFalse, Int.toNat_natCast, List.length_append, List.length_cons, List.length_nil, meet_self]
  rw [Store_ ⟨by omega, by omega⟩]
  simp (disch := first | omega | (simp only [List.length_append, List.length_cons, List.length_nil, List.length_set, List.length_take, List.length_drop, List.length_replicate]; omega) | fail) only [cond_t, cond_f, dt, df, w64, wu64, w8, ble_t, ble_f, ieqt, ieqf, inet, inef, Bool.not_true, Bool.not_false, Bool.true_and, Bool.and_true, Bool.false_and, Bool.and_false, Bool.not_not, dTrue, dFalse, Int.toNat_natCast, List.length_append, List.length_cons, List.length_nil, meet_self]
theorem write0 (h : ¬(lo ≤ a ∧ a < hi)) (n : Int) (k : Bool → KS) : stack_Stack_writev1 a n lo g hi sp al lim low true ns k = k false lo g hi sp al lim low true ns := by
  unfold stack_Stack_writev1 stack_Stack_writev1.body
  rw [live_]
  by_cases c2 : a < lo
  · simp (disch := first | omega | (simp only [List.length_append, List.length_cons, List.length_nil, List.length_set, List.length_take, List.length_drop, List.length_replicate]; omega) | fail) only [cond_t, cond_f, dt, df, w64, wu64, w8, ble_t, ble_f, ieqt, ieqf, inet, inef, Bool.not_true, Bool.not_false, Bool.true_and, Bool.and_true, Bool.false_and, Bool.and_false, Bool.not_not, dTrue, dFalse, Int.toNat_natCast, List.length_append, List.length_cons, List.length_nil, meet_self]
  · simp (disch := first | omega | (simp only [List.length_append, List.length_cons, List.length_nil, List.length_set, List.length_take, List.length_drop, List.length_replicate]; omega) | fail) only [cond_t, cond_f, dt, df, w64, wu64, w8, ble_t, ble_f, ieqt, ieqf, inet, inef, Bool.not_true, Bool.not_false, Bool.true_and, Bool.and_true, Bool.false_and, Bool.and_false, Bool.not_not, dTrue, dFalse, Int.toNat_natCast, List.length_append, List.length_cons, List.length_nil, meet_self]
theorem rstore_ {a : Int} (h : 0 ≤ a ∧ a < (ns.length : Int)) (hl : ns.length ≤ 5000000) (n : Int) (k : List Int → Bool → Option Bool) : ref38_Store ns a n k = k (ns.set a.toNat n) true := by
  unfold ref38_Store ref38_Store.body
  simp (disch := first | omega | (simp only [List.length_append, List.length_cons, List.length_nil, List.length_set, List.length_take, List.length_drop, List.length_replicate]; omega) | fail) only [cond_t, cond_f, dt, df, w64, wu64, w8, ble_t, ble_f, ieqt, ieqf, inet, inef, Bool.not_true, Bool.not_false, Bool.true_and, Bool.and_true, Bool.false_and, Bool.and_false, Bool.not_not, dTrue, dFalse, Int.toNat_natCast, List.length_append, List.length_cons, List.length_nil, meet_self]
theorem rload_ {a : Int} (h : 0 ≤ a ∧ a < (ns.length : Int)) (k : Int → Bool → Option Bool) : ref38_Load ns a k = k (ns.getD a.toNat 0) true := by
  unfold ref38_Load ref38_Load.body
  simp (disch := first | omega | (simp only [List.length_append, List.length_cons, List.length_nil, List.length_set, List.length_take, List.length_drop, List.length_replicate]; omega) | fail) only [cond_t, cond_f, dt, df, w64, wu64, w8, ble_t, ble_f, ieqt, ieqf, inet, inef, Bool.not_true, Bool.not_false, Bool.true_and, Bool.and_true, Bool.false_and, Bool.and_false, Bool.not_not, dTrue, dFalse, Int.toNat_natCast, List.length_append, List.length_cons, List.length_nil, meet_self]
theorem rwrite1 (h : lo ≤ a ∧ a < hi) (h0 : 0 ≤ lo) (ht : hi ≤ (ns.length : Int)) (hl : ns.length ≤ 5000000) (n : Int) (k : T → Bool → Option Bool) : ref39_write (tt lo g hi sp al lim low ns) a n k = k (tt lo g hi sp al lim (mn (a - lo) low) (ns.set a.toNat n)) true := by
  unfold ref39_write ref39_write.body ref39_in ref39_in.body
  dsimp only [tt]
  rw [cond_pos (dt (by omega)), cond_neg (by rw [dt h.2]; rfl), rstore_ ⟨by omega, by omega⟩ hl, w64 (n := a - lo) (by omega) (by omega)]
theorem rwrite0 (h : ¬(lo ≤ a ∧ a < hi)) (n : Int) (k : T → Bool → Option Bool) : ref39_write (tt lo g hi sp al lim low ns) a n k = k (tt lo g hi sp al lim low ns) false := by
  unfold ref39_write ref39_write.body ref39_in ref39_in.body
  dsimp only [tt]
  by_cases c2 : a ≥ lo
  · rw [cond_pos (dt c2), cond_pos (by rw [df (by omega)]; rfl)]
  · rw [cond_neg (df c2), cond_pos (by rfl)]
abbrev KT := T → Bool → KS
/-- whatever comes of a move, as long as both stand alike -/
abbrev Good (lim : Int) (K : Bool → T → KS) : Prop := ∀ lo' g' hi' sp' al' low' ns', Inv lo' g' hi' sp' al' lim low' ns' → K true (tt lo' g' hi' sp' al' lim low' ns') lo' g' hi' sp' al' lim low' true ns' = some true
theorem Push_ok (h : Inv lo g hi sp al lim low ns) (n : Int) (K : Bool → T → KS) (H : Good lim K) : ref39_Push (tt lo g hi sp al lim low ns) n (fun t b => stack_Stack_Pushv1 n lo g hi sp al lim low true ns (fun b2 => K (b2 == b) t)) = some true := by
  have hh := h
  obtain ⟨h1, h2, h3, h4, h5, h6, h7, h8, h9⟩ := hh
  unfold ref39_Push ref39_Push.body stack_Stack_Pushv1 stack_Stack_Pushv1.body stack_Stack_aheadv1 stack_Stack_aheadv1.body
  dsimp only [tt]
  rw [w64 (n := sp - 1) (by omega) (by omega)]
  by_cases c : lo ≤ sp - 1 ∧ sp - 1 < hi
  · rw [rwrite1 c h2 h4 (by omega), cond_neg (by rfl), SP_, w64 (n := sp - 1) (by omega) (by omega), write1 c h2 h4 (by omega), cond_neg (by rfl), w64 (n := sp - 1) (by omega) (by omega)]
    exact H lo g hi (sp - 1) al (mn (sp - 1 - lo) low) (ns.set (sp - 1).toNat n) ⟨h1, h2, h3, by rw [List.length_set]; exact h4, by rw [List.length_set]; exact h5, h6, h7, ⟨by omega, by omega⟩, mn_ (by omega) h9⟩
  · rw [rwrite0 c, cond_pos (by rfl), SP_, w64 (n := sp - 1) (by omega) (by omega), write0 c, cond_pos (by rfl)]
    exact H _ _ _ _ _ _ _ h
theorem Spill_ok (h : Inv lo g hi sp al lim low ns) (K : Bool → T → KS) (H : Good lim K) : ref39_Spill (tt lo g hi sp al lim low ns) (fun t b => stack_Stack_Spillv1 lo g hi sp al lim low true ns (fun b2 => K (b2 == b) t)) = some true := by
  have hh := h
  obtain ⟨h1, h2, h3, h4, h5, h6, h7, h8, h9⟩ := hh
  unfold ref39_Spill ref39_Spill.body stack_Stack_Spillv1 stack_Stack_Spillv1.body stack_Stack_aheadv1 stack_Stack_aheadv1.body
  dsimp only [tt]
  rw [w64 (n := sp - 1) (by omega) (by omega)]
  by_cases c : lo ≤ sp - 1 ∧ sp - 1 < hi
  · rw [rwrite1 c h2 h4 (by omega), SP_, w64 (n := sp - 1) (by omega) (by omega), write1 c h2 h4 (by omega)]
    exact H lo g hi sp al (mn (sp - 1 - lo) low) (ns.set (sp - 1).toNat 0) ⟨h1, h2, h3, by rw [List.length_set]; exact h4, by rw [List.length_set]; exact h5, h6, h7, h8, mn_ (by omega) h9⟩
  · rw [rwrite0 c, SP_, w64 (n := sp - 1) (by omega) (by omega), write0 c]
    exact H _ _ _ _ _ _ _ h
theorem Set_ok (h : Inv lo g hi sp al lim low ns) (s n : Int) (K : Bool → T → KS) (H : Good lim K) : ref39_Set (tt lo g hi sp al lim low ns) s n (fun t b => stack_Stack_Setv1 s n lo g hi sp al lim low true ns (fun b2 => K (b2 == b) t)) = some true := by
  have hh := h
  obtain ⟨h1, h2, h3, h4, h5, h6, h7, h8, h9⟩ := hh
  unfold ref39_Set ref39_Set.body stack_Stack_Setv1 stack_Stack_Setv1.body stack_Stack_hasv1 stack_Stack_hasv1.body
  dsimp only [tt]
  by_cases c : s < 0
  · rw [cond_neg (by rw [dt c]; rfl), cond_neg (df (by omega)), cond_neg (by rfl)]
    exact H _ _ _ _ _ _ _ h
  · rw [cond_pos (not_t c), w64 (n := hi - sp) (by omega) (by omega)]
    by_cases c2 : s ≥ hi - sp
    · rw [cond_pos (dt c2), cond_pos (dt (by omega)), Id_ ⟨by omega, by omega, by omega, by omega⟩, cond_neg (df (by omega))]
      exact H _ _ _ _ _ _ _ h
    · rw [cond_neg (df c2), w64 (n := sp + s) (by omega) (by omega), rwrite1 ⟨by omega, by omega⟩ h2 h4 (by omega), cond_pos (dt (by omega)), Id_ ⟨by omega, by omega, by omega, by omega⟩, cond_pos (dt (by omega)), w64 (n := sp + s) (by omega) (by omega), write1 ⟨by omega, by omega⟩ h2 h4 (by omega)]
      exact H lo g hi sp al (mn (sp + s - lo) low) (ns.set (sp + s).toNat n) ⟨h1, h2, h3, by rw [List.length_set]; exact h4, by rw [List.length_set]; exact h5, h6, h7, h8, mn_ (by omega) h9⟩
theorem Pop_ok (h : Inv lo g hi sp al lim low ns) (K : Bool → T → KS) (H : Good lim K) : stack_Stack_Popv1 lo g hi sp al lim low true ns (fun n b lo g hi sp' al lim low b' ns' => ref39_Pop (tt lo g hi sp al lim low ns) (fun t n2 b2 => cond_ (n == n2) (K (b == b2) t lo g hi sp' al lim low b' ns') (K false t lo g hi sp' al lim low b' ns'))) = some true := by
  have hh := h
  obtain ⟨h1, h2, h3, h4, h5, h6, h7, h8, h9⟩ := hh
  unfold ref39_Pop ref39_Pop.body ref39_in ref39_in.body
  by_cases c : sp < hi
  · rw [Pop_ ⟨by omega, c⟩ h2 h4 (by omega)]
    dsimp only [tt]
    rw [cond_pos (dt (by omega)), cond_neg (by rw [dt c]; rfl), rload_ ⟨by omega, by omega⟩, w64 (n := sp + 1) (by omega) (by omega), cond_pos (by simp)]
    exact H _ _ _ _ _ _ _ ⟨h1, h2, h3, h4, h5, h6, h7, ⟨by omega, by omega⟩, h9⟩
  · rw [Pop0_ (by omega) h2 (by omega) h4 (by omega)]
    dsimp only [tt]
    rw [cond_pos (dt (by omega)), cond_pos (by rw [df c]; rfl), cond_pos (by rfl)]
    exact H _ _ _ _ _ _ _ h
theorem Get_ok (h : Inv lo g hi sp al lim low ns) (s : Int) (K : Bool → T → KS) (H : Good lim K) : stack_Stack_Getv1 s lo g hi sp al lim low true ns (fun n b lo' g' hi' sp' al' lim' low' b' ns' => ref39_Get (tt lo g hi sp al lim low ns) s (fun n2 b2 => cond_ (n == n2) (K (b == b2) (tt lo g hi sp al lim low ns) lo' g' hi' sp' al' lim' low' b' ns') (K false (tt lo g hi sp al lim low ns) lo' g' hi' sp' al' lim' low' b' ns'))) = some true := by
  have hh := h
  obtain ⟨h1, h2, h3, h4, h5, h6, h7, h8, h9⟩ := hh
  unfold ref39_Get ref39_Get.body stack_Stack_Getv1 stack_Stack_Getv1.body stack_Stack_hasv1 stack_Stack_hasv1.body
  dsimp only [tt]
  by_cases c : s < 0
  · rw [cond_neg (df (by omega)), cond_pos (by rfl), cond_neg (by rw [dt c]; rfl), cond_pos (by rfl)]
    exact H _ _ _ _ _ _ _ h
  · rw [cond_pos (dt (by omega)), Id_ ⟨by omega, by omega, by omega, by omega⟩]
    by_cases c2 : s ≥ hi - sp
    · rw [cond_pos (by rw [df (by omega)]; rfl), cond_pos (not_t c), w64 (n := hi - sp) (by omega) (by omega), cond_pos (dt c2), cond_pos (by rfl)]
      exact H _ _ _ _ _ _ _ h
    · rw [cond_neg (by rw [dt (by omega)]; rfl), w64 (n := sp + s) (by omega) (by omega), Load_ ⟨by omega, by omega⟩, cond_pos (not_t c), w64 (n := hi - sp) (by omega) (by omega), cond_neg (df c2), rload_ ⟨by omega, by omega⟩, cond_pos (by simp)]
      exact H _ _ _ _ _ _ _ h
theorem may_ (a r : Int) (k : Bool → KS) : stack_Stack_mayv1 a r lo g hi sp al lim low true ns k = k (decide (0 ≤ a ∧ a ≤ r)) lo g hi sp al lim low true ns := by
  unfold stack_Stack_mayv1 stack_Stack_mayv1.body
  rw [live_]
  by_cases c : a ≥ 0
  · by_cases c2 : a ≤ r
    · simp (disch := first | omega | (simp only [List.length_append, List.length_cons, List.length_nil, List.length_set, List.length_take, List.length_drop, List.length_replicate]; omega) | fail) only [cond_t, cond_f, dt, df, w64, wu64, w8, ble_t, ble_f, ieqt, ieqf, inet, inef, Bool.not_true, Bool.not_false, Bool.true_and, Bool.and_true, Bool.false_and, Bool.and_false, Bool.not_not, dTrue, dFalse, Int.toNat_natCast, List.length_append, List.length_cons, List.length_nil, meet_self]
    · simp (disch := first | omega | (simp only [List.length_append, List.length_cons, List.length_nil, List.length_set, List.length_take, List.length_drop, List.length_replicate]; omega) | fail) only [cond_t, cond_f, dt, df, w64, wu64, w8, ble_t, ble_f, ieqt, ieqf, inet, inef, Bool.not_true, Bool.not_false, Bool.true_and, Bool.and_true, Bool.false_and, Bool.and_false, Bool.not_not, dTrue, dFalse, Int.toNat_natCast, List.length_append, List.length_cons, List.length_nil, meet_self]
  · simp (disch := first | omega | (simp only [List.length_append, List.length_cons, List.length_nil, List.length_set, List.length_take, List.length_drop, List.length_replicate]; omega) | fail) only [cond_t, cond_f, dt, df, w64, wu64, w8, ble_t, ble_f, ieqt, ieqf, inet, inef, Bool.not_true, Bool.not_false, Bool.true_and, Bool.and_true, Bool.false_and, Bool.and_false, Bool.not_not, dTrue, dFalse, Int.toNat_natCast, List.length_append, List.length_cons, List.length_nil, meet_self]
theorem Down_ok (h : Inv lo g hi sp al lim low ns) (a : Int) (K : Bool → T → KS) (H : Good lim K) : ref39_Move (tt lo g hi sp al lim low ns) a true (fun t b => stack_Stack_Downv1 a lo g hi sp al lim low true ns (fun b2 => K (b2 == b) t)) = some true := by
  have hh := h
  obtain ⟨h1, h2, h3, h4, h5, h6, h7, h8, h9⟩ := hh
  unfold ref39_Move ref39_Move.body stack_Stack_Downv1 stack_Stack_Downv1.body
  dsimp only [tt]
  by_cases c : a < 0
  · rw [cond_neg (by rw [dt c]; rfl), SP_, Seg_, may_, cond_pos (by rw [df (by omega)]; rfl)]
    exact H _ _ _ _ _ _ _ h
  · rw [cond_pos (not_t c), cond_pos (by rfl), w64 (n := sp - lo) (by omega) (by omega)]
    by_cases c2 : a > sp - lo
    · rw [cond_neg (by rw [dt c2]; rfl), SP_, Seg_, w64 (n := sp - lo) (by omega) (by omega), may_, cond_pos (by rw [df (by omega)]; rfl)]
      exact H _ _ _ _ _ _ _ h
    · rw [cond_pos (not_t c2), cond_neg (by rfl), cond_pos (by rfl), w64 (n := sp - a) (by omega) (by omega), SP_, Seg_, w64 (n := sp - lo) (by omega) (by omega), may_, cond_neg (by rw [dt (by omega)]; rfl), w64 (n := sp - a) (by omega) (by omega)]
      exact H _ _ _ _ _ _ _ ⟨h1, h2, h3, h4, h5, h6, h7, ⟨by omega, by omega⟩, h9⟩
theorem Up_ok (h : Inv lo g hi sp al lim low ns) (a : Int) (K : Bool → T → KS) (H : Good lim K) : ref39_Move (tt lo g hi sp al lim low ns) a false (fun t b => stack_Stack_Upv1 a lo g hi sp al lim low true ns (fun b2 => K (b2 == b) t)) = some true := by
  have hh := h
  obtain ⟨h1, h2, h3, h4, h5, h6, h7, h8, h9⟩ := hh
  unfold ref39_Move ref39_Move.body stack_Stack_Upv1 stack_Stack_Upv1.body
  dsimp only [tt]
  by_cases c : a < 0
  · rw [cond_neg (by rw [dt c]; rfl), Id_ ⟨by omega, by omega, by omega, by omega⟩, may_, cond_pos (by rw [df (by omega)]; rfl)]
    exact H _ _ _ _ _ _ _ h
  · rw [cond_pos (not_t c), cond_neg (by rfl), cond_pos (by rfl), w64 (n := hi - sp) (by omega) (by omega)]
    by_cases c2 : a > hi - sp
    · rw [cond_pos (dt c2), Id_ ⟨by omega, by omega, by omega, by omega⟩, may_, cond_pos (by rw [df (by omega)]; rfl)]
      exact H _ _ _ _ _ _ _ h
    · rw [cond_neg (df c2), cond_neg (by rfl), w64 (n := sp + a) (by omega) (by omega), Id_ ⟨by omega, by omega, by omega, by omega⟩, may_, cond_neg (by rw [dt (by omega)]; rfl), w64 (n := sp + a) (by omega) (by omega)]
      exact H _ _ _ _ _ _ _ ⟨h1, h2, h3, h4, h5, h6, h7, ⟨by omega, by omega⟩, h9⟩
theorem dblL (least most : Int) (hm : most = 4194304) : ∀ (n : Nat) (a : Int), 1 ≤ a → a ≤ 9000000 → (most - a).toNat < n → ∃ r ok, (ok = true → a ≤ r ∧ least ≤ r ∧ r ≤ most) ∧ (∀ K : Int → Bool → Option Bool, num_Double_L0 n a least most (fun x b => K x b) (K 0 false) = K r ok) ∧ (∀ K' : Int → Bool → Option Bool, ref01_Double_L0 n a least most (fun x b => K' x b) (fun x y => cond_ (decide (x > y)) (K' 0 false) (K' x true)) = K' r ok)
  | 0, a, _, _, h => by omega
  | n + 1, a, h0, h1, h2 => by
    have ht : Int.tdiv most 2 = 2097152 := by rw [hm]; rfl
    simp only [num_Double_L0, ref01_Double_L0]
    unfold num_Double_L0.body ref01_Double_L0.body
    rw [ht, w64 (n := (2097152 : Int)) (by omega) (by omega)]
    by_cases c : a ≤ most
    · by_cases c2 : a ≥ least
      · refine ⟨a, true, fun _ => ⟨Int.le_refl _, c2, c⟩, fun K => ?_, fun K => ?_⟩
        · rw [cond_pos (dt c), cond_pos (dt c2)]
        · rw [cond_neg (df (by omega))]
          dsimp only
          rw [cond_neg (df (by omega))]
      · by_cases c3 : a > most - a
        · refine ⟨0, false, fun e => (by cases e), fun K => ?_, fun K => ?_⟩
          · rw [cond_pos (dt c), cond_neg (df c2), w64 (n := most - a) (by omega) (by omega), cond_pos (dt c3)]
          · rw [cond_pos (dt (p := a < least) (by omega)), cond_pos (dt (by omega))]
        · obtain ⟨r, ok, e1, e2, e3⟩ := dblL least most hm n (a + a) (by omega) (by omega) (by omega)
          refine ⟨r, ok, fun e => ⟨by have := e1 e; omega, (e1 e).2⟩, fun K => ?_, fun K => ?_⟩
          · rw [cond_pos (dt c), cond_neg (df c2), w64 (n := most - a) (by omega) (by omega), cond_neg (df c3), w64 (n := a + a) (by omega) (by omega)]
            exact e2 K
          · rw [cond_pos (dt (p := a < least) (by omega)), cond_neg (df (by omega)), w64 (n := 2 * a) (by omega) (by omega), show 2 * a = a + a by omega]
            exact e3 K
    · refine ⟨0, false, fun e => (by cases e), fun K => ?_, fun K => ?_⟩
      · rw [cond_neg (df c)]
      · by_cases c2 : a < least
        · rw [cond_pos (dt c2), cond_pos (dt (by omega))]
        · rw [cond_neg (df c2)]
          dsimp only
          rw [cond_pos (dt (by omega))]
theorem rgrowL (m : List Int) (n : Int) (hn : n ≤ 5000000) (K : List Int → List Int → Option Bool) : ∀ (f : Nat) (i : Nat) (out : List Int), (i : Int) ≤ n → (n - i).toNat < f → out.length ≤ 5000000 + i → ref38_Grow_L0 f m n (i : Int) out K = K m (out ++ List.replicate (n - i).toNat 0)
  | 0, i, out, _, h, _ => by omega
  | f + 1, i, out, h0, h1, h2 => by
    rw [ref38_Grow_L0]
    unfold ref38_Grow_L0.body
    by_cases c : (i : Int) < n
    · rw [cond_pos (dt c), cond_pos (ble_t (by omega)), w64 (n := (i : Int) + 1) (by omega) (by omega)]
      refine (rgrowL m n hn K f (i + 1) (out ++ [0]) (by omega) (by omega) (by rw [List.length_append]; simp; omega)).trans ?_
      congr 1
      rw [List.append_assoc, show (n - (i : Int)).toNat = (n - ((i + 1 : Nat) : Int)).toNat + 1 by omega, List.replicate_succ]
      rfl
    · rw [cond_neg (df c), show (n - (i : Int)).toNat = 0 by omega]
      simp
theorem rgrow_ {n : Int} (h : 1 ≤ n) (h2 : n ≤ 4194304 - (ns.length : Int)) (k : List Int → Int → Bool → Option Bool) : ref38_Grow ns n k = k (ns ++ List.replicate n.toNat 0) (ns.length : Int) true := by
  unfold ref38_Grow ref38_Grow.body
  rw [cond_pos (not_t (by omega)), w64 (n := 4194304 - (ns.length : Int)) (by omega) (by omega), cond_neg (df (by omega)), cond_pos (ble_t (by omega))]
  refine (rgrowL ns n (by omega) _ ROUNDS 0 ns (by omega) (by unfold ROUNDS; omega) (by omega)).trans ?_
  simp
theorem set_step (xs ys : List Int) (o : Nat) (v : Int) (h : o + ys.length < xs.length) : (setCells xs o ys).set (o + ys.length) v = setCells xs o (ys ++ [v]) := by
  unfold setCells
  have e : (List.take o xs).length = o := by rw [List.length_take]; omega
  have e2 : (List.take o xs ++ ys).length = o + ys.length := by rw [List.length_append, e]
  rw [List.set_append, if_neg (by rw [e2]; omega), e2, Nat.sub_self]
  have h3 : List.drop (o + ys.length) xs = xs[o + ys.length] :: List.drop (o + ys.length + 1) xs := List.drop_eq_getElem_cons h
  rw [h3]
  simp [List.append_assoc, Nat.add_assoc]
theorem rcopyL (m : List Int) (to fr n : Nat) (h1 : to + n ≤ m.length) (h2 : fr + n ≤ m.length) (hl : m.length ≤ 5000000) (K : List Int → Option Bool) : ∀ (f i : Nat), i ≤ n → n - i < f → ref38_Copy_L0 f m (to : Int) (fr : Int) (n : Int) (i : Int) (setCells m to ((m.drop fr).take i)) K = K (setCells m to ((m.drop fr).take n))
  | 0, i, _, h => by omega
  | f + 1, i, h0, h3 => by
    rw [ref38_Copy_L0]
    unfold ref38_Copy_L0.body
    have hy : ((m.drop fr).take i).length = i := by rw [List.length_take, List.length_drop]; omega
    by_cases c : i < n
    · rw [cond_pos (dt (by omega)), w64 (n := (fr : Int) + (i : Int)) (by omega) (by omega), w64 (n := (to : Int) + (i : Int)) (by omega) (by omega), cond_pos (by simp; omega), cond_pos (by rw [setCells_len _ _ _ (by rw [hy]; omega)]; simp; omega), w64 (n := (i : Int) + 1) (by omega) (by omega)]
      have e := rcopyL m to fr n h1 h2 hl K f (i + 1) (by omega) (by omega)
      refine Eq.trans ?_ e
      congr 1
      rw [show ((fr : Int) + (i : Int)).toNat = fr + i by omega, show ((to : Int) + (i : Int)).toNat = to + i by omega]
      have hs := set_step m ((m.drop fr).take i) to (m.getD (fr + i) 0) (by rw [hy]; omega)
      rw [hy] at hs
      rw [hs, List.take_add_one]
      congr 2
      rw [List.getElem?_drop, List.getD_eq_getElem?_getD, List.getElem?_eq_getElem (by omega)]
      rfl
    · rw [cond_neg (df (by omega)), show i = n by omega]
theorem rcopy_ {to fr n : Int} (hn : 0 ≤ n) (h1 : 0 ≤ to ∧ to + n ≤ (ns.length : Int)) (h2 : 0 ≤ fr ∧ fr + n ≤ (ns.length : Int)) (hl : ns.length ≤ 5000000) (k : List Int → Bool → Option Bool) : ref38_Copy ns to fr n k = k (setCells ns to.toNat ((ns.drop fr.toNat).take n.toNat)) true := by
  obtain ⟨t, rfl⟩ := Int.eq_ofNat_of_zero_le h1.1
  obtain ⟨f, rfl⟩ := Int.eq_ofNat_of_zero_le h2.1
  obtain ⟨m, rfl⟩ := Int.eq_ofNat_of_zero_le hn
  unfold ref38_Copy ref38_Copy.body ref38_within ref38_within.body
  rw [cond_pos (not_t (by omega)), cond_pos (dt (by omega)), cond_pos (dt (by omega)), w64 (n := (ns.length : Int) - (t : Int)) (by omega) (by omega), dt (p := (m : Int) ≤ (ns.length : Int) - (t : Int)) (by omega)]
  dsimp only
  rw [cond_pos (by rfl), cond_pos (dt (by omega)), cond_pos (dt (by omega)), w64 (n := (ns.length : Int) - (f : Int)) (by omega) (by omega), dt (p := (m : Int) ≤ (ns.length : Int) - (f : Int)) (by omega)]
  rw [cond_neg (by rfl), cond_pos (ble_t (by omega))]
  have e := rcopyL ns t f m (by omega) (by omega) hl (fun ns314 => k ns314 true) ROUNDS 0 (by omega) (by unfold ROUNDS; omega)
  refine Eq.trans ?_ e
  congr 1
  unfold setCells
  simp
theorem dblU (a least : Int) (h0 : 1 ≤ a) (h1 : a ≤ 9000000) : ∃ r ok, (ok = true → a ≤ r ∧ least ≤ r ∧ r ≤ 4194304) ∧ (∀ K, num_Double a least 4194304 K = K r ok) ∧ (∀ K, ref01_Double a least 4194304 K = K r ok) := by
  unfold num_Double num_Double.body ref01_Double ref01_Double.body
  obtain ⟨r, ok, e1, e2, e3⟩ := dblL least 4194304 rfl ROUNDS a h0 h1 (by unfold ROUNDS; omega)
  refine ⟨r, ok, e1, fun K => ?_, fun K => ?_⟩
  · rw [cond_neg (df (by omega))]
    exact e2 K
  · rw [cond_neg (df (by omega))]
    exact e3 K
theorem Grow_ok (h : Inv lo g hi sp al lim low ns) (f : Int) (K K2 : Bool → T → KS) (H : Good lim K) (H2 : Good lim K2) : ref39_Grow (tt lo g hi sp al lim low ns) f (fun t b => stack_Stack_Growv1 f lo g hi sp al lim low true ns (fun b2 => K (b2 == b) t) (fun b2 => K2 (b2 == b) t)) = some true := by
  have hh := h
  obtain ⟨hg, h0, hsz, htop, hall, hcap, hlim, hsp, hlow⟩ := hh
  have hH := H _ _ _ _ _ _ _ h
  unfold ref39_Grow ref39_Grow.body ref39_Id ref39_Id.body stack_Stack_Growv1 stack_Stack_Growv1.body
  dsimp only [tt]
  rw [cond_pos (by rfl)]
  by_cases cf : f > 1048576
  · rw [cond_pos (dt cf), live_, cond_pos (by rfl), cond_pos (dt cf)]
    exact hH
  · rw [cond_neg (df cf)]
    obtain ⟨f2, e2, e3⟩ : ∃ f2, f2 = (if f < 0 then 0 else f) ∧ 0 ≤ f2 ∧ f2 ≤ 1048576 := ⟨_, rfl, by split <;> omega, by split <;> omega⟩
    rw [← e2, w64 (n := hi - lo) (by omega) (by omega), w64 (n := 2 * (hi - lo)) (by omega) (by omega), w64 (n := hi - sp) (by omega) (by omega), w64 (n := hi - sp + f2) (by omega) (by omega), w64 (n := hi - sp + f2 + 64) (by omega) (by omega), w64 (n := lim - al) (by omega) (by omega)]
    obtain ⟨r, ok, h3, h4, h5⟩ := dblU (2 * (hi - lo)) (hi - sp + f2 + 64) (by omega) (by omega)
    rw [h5]
    cases ok with
    | false =>
      rw [cond_neg (by rfl), live_, cond_pos (by rfl), cond_neg (df cf), Id_ ⟨by omega, by omega, by omega, by omega⟩]
      rw [w64 (n := hi - lo) (by omega) (by omega), w64 (n := 2 * (hi - lo)) (by omega) (by omega), w64 (n := hi - sp + f2) (by omega) (by omega), w64 (n := hi - sp + f2 + 64) (by omega) (by omega), h4, cond_neg (by rfl)]
      exact hH
    | true =>
      obtain ⟨h6, h7, h8⟩ := h3 rfl
      rw [cond_pos (by rfl)]
      by_cases c : r > lim - al
      · rw [cond_pos (dt c), live_, cond_pos (by rfl), cond_neg (df cf), Id_ ⟨by omega, by omega, by omega, by omega⟩]
        rw [w64 (n := hi - lo) (by omega) (by omega), w64 (n := 2 * (hi - lo)) (by omega) (by omega), w64 (n := hi - sp + f2) (by omega) (by omega), w64 (n := hi - sp + f2 + 64) (by omega) (by omega), h4, cond_pos (by rfl), w64 (n := lim - al) (by omega) (by omega), cond_pos (dt c)]
        exact hH
      · have hlen : (ns ++ List.replicate r.toNat 0).length = ns.length + r.toNat := by simp
        have hys : ((List.drop sp.toNat (ns ++ List.replicate r.toNat 0)).take (hi - sp).toNat).length = (hi - sp).toNat := by
          rw [List.length_take, List.length_drop, hlen]
          omega
        rw [cond_neg (df c), rgrow_ (by omega) (by omega), cond_neg (by rfl), w64 (n := (ns.length : Int) + r) (by omega) (by omega), w64 (n := (ns.length : Int) + r - (hi - sp)) (by omega) (by omega), rcopy_ (by omega) ⟨by omega, by omega⟩ ⟨by omega, by omega⟩ (by omega), w64 (n := (ns.length : Int) + 64) (by omega) (by omega), w64 (n := al + r) (by omega) (by omega)]
        rw [live_, cond_pos (by rfl), cond_neg (df cf), Id_ ⟨by omega, by omega, by omega, by omega⟩]
        rw [w64 (n := hi - lo) (by omega) (by omega), w64 (n := 2 * (hi - lo)) (by omega) (by omega), w64 (n := hi - sp + f2) (by omega) (by omega), w64 (n := hi - sp + f2 + 64) (by omega) (by omega), h4, cond_pos (by rfl), w64 (n := lim - al) (by omega) (by omega), cond_neg (df c), mgrow_ (by omega) (by omega), cond_neg (by rfl)]
        unfold stack_segment stack_segment.body
        rw [w64 (n := (ns.length : Int) + 64) (by omega) (by omega), w64 (n := (ns.length : Int) + r) (by omega) (by omega)]
        simp only
        rw [w64 (n := (ns.length : Int) + r - (hi - sp)) (by omega) (by omega), copy_ (by omega) ⟨by omega, by omega⟩ ⟨by omega, by omega⟩ (by omega), w64 (n := al + r) (by omega) (by omega)]
        refine H2 _ _ _ _ _ _ _ ⟨rfl, by omega, by omega, ?_, ?_, by omega, hlim, ⟨by omega, by omega⟩, hlow⟩
        · rw [setCells_len _ _ _ (by rw [hys, hlen]; omega), hlen]; omega
        · rw [setCells_len _ _ _ (by rw [hys, hlen]; omega), hlen]; omega
theorem told_ok (h : Inv lo g hi sp al lim low ns) (k : Bool → KS) : law39_toldv1 (tt lo g hi sp al lim low ns) lo g hi sp al lim low true ns k = k true lo g hi sp al lim low true ns := by
  obtain ⟨h1, h2, h3, h4, h5, h6, h7, h8, h9⟩ := h
  unfold law39_toldv1 law39_toldv1.body ref39_Id ref39_Id.body
  dsimp only [tt]
  rw [Seg_, cond_pos (by simp), SP_, cond_pos (by simp), Id_ ⟨by omega, by omega, by omega, by omega⟩, w64 (n := hi - sp) (by omega) (by omega), cond_pos (by simp), Low_, show (low == low) = true by simp]
abbrev Mv := Int × Int × Int × Unit
theorem play_ok (h : Inv lo g hi sp al lim low ns) (x : Mv) (k1 k2 : KT) (H1 : Good lim (fun b t => k1 t b)) (H2 : Good lim (fun b t => k2 t b)) : law39_playv1 (tt lo g hi sp al lim low ns) x lo g hi sp al lim low true ns k1 k2 = some true := by
  unfold law39_playv1 law39_playv1.body
  by_cases c0 : x.1 = 0
  · rw [cond_pos (ieqt c0)]
    exact Push_ok h _ (fun b t => k1 t b) H1
  · rw [cond_neg (ieqf c0)]
    by_cases c1 : x.1 = 1
    · rw [cond_pos (ieqt c1)]
      exact Pop_ok h (fun b t => k1 t b) H1
    · rw [cond_neg (ieqf c1)]
      by_cases c2 : x.1 = 2
      · rw [cond_pos (ieqt c2)]
        exact Down_ok h _ (fun b t => k1 t b) H1
      · rw [cond_neg (ieqf c2)]
        by_cases c3 : x.1 = 3
        · rw [cond_pos (ieqt c3)]
          exact Up_ok h _ (fun b t => k1 t b) H1
        · rw [cond_neg (ieqf c3)]
          by_cases c4 : x.1 = 4
          · rw [cond_pos (ieqt c4)]
            exact Get_ok h _ (fun b t => k1 t b) H1
          · rw [cond_neg (ieqf c4)]
            by_cases c5 : x.1 = 5
            · rw [cond_pos (ieqt c5)]
              exact Set_ok h _ _ (fun b t => k1 t b) H1
            · rw [cond_neg (ieqf c5)]
              by_cases c6 : x.1 = 6
              · rw [cond_pos (ieqt c6)]
                exact Spill_ok h (fun b t => k1 t b) H1
              · rw [cond_neg (ieqf c6)]
                exact Grow_ok h _ (fun b t => k1 t b) (fun b t => k2 t b) H1 H2
theorem Load0_ {a : Int} (h : (ns.length : Int) ≤ a) (k : Int → Bool → Bool → List Int → Option Bool) : memory_Memory_Load a true ns k = k 0 false true ns := by
  unfold memory_Memory_Load memory_Memory_Load.body memory_Memory_at memory_Memory_at.body
  rw [Size_]
  simp (disch := first | omega | (simp only [List.length_append, List.length_cons, List.length_nil, List.length_set, List.length_take, List.length_drop, List.length_replicate]; omega) | fail) only [cond_t, cond_f, dt, df, w64, wu64, w8, ble_t, ble_f, ieqt, ieqf, inet, inef, Bool.not_true, Bool.not_false, Bool.true_and, Bool.and_true, Bool.false_and, Bool.and_false, Bool.not_not, dTrue, dFalse, Int.toNat_natCast, List.length_append, List.length_cons, List.length_nil, meet_self]
theorem rload0_ {a : Int} (h : (ns.length : Int) ≤ a) (k : Int → Bool → Option Bool) : ref38_Load ns a k = k 0 false := by
  unfold ref38_Load ref38_Load.body
  simp (disch := first | omega | (simp only [List.length_append, List.length_cons, List.length_nil, List.length_set, List.length_take, List.length_drop, List.length_replicate]; omega) | fail) only [cond_t, cond_f, dt, df, w64, wu64, w8, ble_t, ble_f, ieqt, ieqf, inet, inef, Bool.not_true, Bool.not_false, Bool.true_and, Bool.and_true, Bool.false_and, Bool.and_false, Bool.not_not, dTrue, dFalse, Int.toNat_natCast, List.length_append, List.length_cons, List.length_nil, meet_self]
theorem loadL (b : Bool) (hl : ns.length ≤ 5000000) (k1 : Bool → Option Bool) (k2 : Bool → List Int → List Int → Int → Int → Int → Int → Int → Int → Int → Bool → Option Bool) : ∀ (f i : Nat), i ≤ ns.length + 1 → ns.length + 1 - i < f → law39_StackPlays_L2 f (i : Int) true ns ns lo g hi sp al lim low b k1 k2 = k2 true ns ns lo g hi sp al lim low b
  | 0, i, _, h => by omega
  | f + 1, i, h0, h1 => by
    rw [law39_StackPlays_L2]
    unfold law39_StackPlays_L2.body
    by_cases c : i < ns.length
    · rw [cond_pos (dt (by omega)), Load_ ⟨by omega, by omega⟩, rload_ ⟨by omega, by omega⟩, cond_pos (by simp), cond_neg (by rfl), w64 (n := (i : Int) + 1) (by omega) (by omega)]
      exact loadL b hl k1 k2 f (i + 1) (by omega) (by omega)
    · by_cases c2 : i = ns.length
      · rw [cond_pos (dt (by omega)), Load0_ (by omega), rload0_ (by omega), cond_pos (by rfl), cond_neg (by rfl), w64 (n := (i : Int) + 1) (by omega) (by omega)]
        exact loadL b hl k1 k2 f (i + 1) (by omega) (by omega)
      · rw [cond_neg (df (by omega))]
theorem playL (ms : List Mv) (hm : ms.length ≤ 60) (k1 : Bool → Option Bool) (k2 : Bool → List Int → List Int → Int → Int → Int → Int → Int → Int → Int → Bool → Option Bool) (lim : Int) (hk : ∀ lo g hi sp al low ns, Inv lo g hi sp al lim low ns → k2 true ns ns lo g hi sp al lim low true = some true) : ∀ (f i : Nat) (lo g hi sp al low : Int) (ns : List Int), i ≤ ms.length → ms.length - i < f → Inv lo g hi sp al lim low ns → law39_StackPlays_L0v1 f ms true (i : Int) true ns lo g hi sp al lim low ns lo g hi sp al lim low true k1 k2 = some true
  | 0, i, _, _, _, _, _, _, _, _, h, _ => by omega
  | f + 1, i, lo, g, hi, sp, al, low, ns, h0, h1, hs => by
    rw [law39_StackPlays_L0v1]
    unfold law39_StackPlays_L0v1.body
    rw [cond_pos (by rfl)]
    by_cases c : i < ms.length
    · rw [cond_pos (dt (by omega)), cond_pos (by simp; omega)]
      refine play_ok hs _ _ _ ?_ ?_
      · intro lo g hi sp al low ns h
        dsimp only [tt]
        rw [cond_pos (by rfl), told_ok h, cond_neg (by rfl), w64 (n := (i : Int) + 1) (by omega) (by omega)]
        exact playL ms hm k1 k2 lim hk f (i + 1) _ _ _ _ _ _ _ (by omega) (by omega) h
      · intro lo g hi sp al low ns h
        dsimp only [tt]
        rw [cond_pos (by rfl), told_ok h, cond_neg (by rfl), w64 (n := (i : Int) + 1) (by omega) (by omega)]
        exact playL ms hm k1 k2 lim hk f (i + 1) _ _ _ _ _ _ _ (by omega) (by omega) h
    · rw [cond_neg (df (by omega))]
      exact hk _ _ _ _ _ _ _ hs
theorem none_ {f : Nat} {ms : List Mv} {l : List Int} {b : Bool} {i : Int} (k1 : Bool → Option Bool) (k2 : Bool → List Int → List Int → Int → Int → Int → Int → Int → Int → Int → Bool → Option Bool) : law39_StackPlays_L0 (f + 1) ms false i true ns l lo g hi sp al lim low b k1 k2 = k2 true ns l lo g hi sp al lim low b := by
  rw [law39_StackPlays_L0]
  unfold law39_StackPlays_L0.body
  rw [cond_neg (by rfl)]
theorem mnew_ (h : ns.length ≤ 60) (k : Bool → List Int → Option Bool) : memory_New ns k = k true ns := by
  unfold memory_New memory_New.body slices_Clone_int64_int64 slices_Clone_int64_int64.body
  cases ns with
  | nil =>
    rw [cond_pos (by rfl), cond_pos (by rfl)]
    exact meet_self _
  | cons x xs =>
    rw [cond_neg (by rfl), cond_pos (ble_t (by omega))]
    rfl
theorem snew0_ {lim : Int} (h : lim < 128) (k1 : Bool → Bool → List Int → Option Bool) (k2 : Bool → Bool → List Int → Int → Int → Int → Int → Int → Int → Int → Option Bool) (k3 : Bool → Bool → List Int → Option Bool) (k4 : Bool → Bool → List Int → Int → Int → Int → Int → Int → Int → Int → Option Bool) : stack_New lim true ns k1 k2 k3 k4 = k1 false true ns := by
  unfold stack_New stack_New.body
  rw [cond_pos (dt h)]
theorem snew_ {lim : Int} (h : 128 ≤ lim) (hl : ns.length ≤ 60) (k1 : Bool → Bool → List Int → Option Bool) (k2 : Bool → Bool → List Int → Int → Int → Int → Int → Int → Int → Int → Option Bool) (k3 : Bool → Bool → List Int → Option Bool) (k4 : Bool → Bool → List Int → Int → Int → Int → Int → Int → Int → Int → Option Bool) : stack_New lim true ns k1 k2 k3 k4 = k4 true true (ns ++ List.replicate (128 : Int).toNat 0) (ns.length : Int) ((ns.length : Int) + 64) ((ns.length : Int) + 128) ((ns.length : Int) + 128) 128 lim 128 := by
  unfold stack_New stack_New.body
  rw [cond_neg (df (by omega)), mgrow_ (by omega) (by omega), cond_neg (by rfl)]
  unfold stack_segment stack_segment.body
  rw [w64 (n := (ns.length : Int) + 64) (by omega) (by omega), w64 (n := (ns.length : Int) + 128) (by omega) (by omega)]
theorem rnew0_ {lim : Int} (h : lim < 128) (k : T → Bool → Option Bool) : ref39_New ns lim k = k (ns, (0, (0, (0, (0, (0, (0, (0, (false, ()))))))))) false := by
  unfold ref39_New ref39_New.body
  rw [cond_pos (dt h)]
theorem rnew_ {lim : Int} (h : 128 ≤ lim) (hl : ns.length ≤ 60) (k : T → Bool → Option Bool) : ref39_New ns lim k = k (tt (ns.length : Int) ((ns.length : Int) + 64) ((ns.length : Int) + 128) ((ns.length : Int) + 128) 128 lim 128 (ns ++ List.replicate (128 : Int).toNat 0)) true := by
  unfold ref39_New ref39_New.body
  rw [cond_neg (df (by omega)), rgrow_ (by omega) (by omega), cond_neg (by rfl), w64 (n := (ns.length : Int) + 64) (by omega) (by omega), w64 (n := (ns.length : Int) + 128) (by omega) (by omega)]
theorem holds (ws : List Int) (lim : Int) (ms : List Mv) (h0 : okD (.sl 2 (.int .i64)) ws) (h1 : okD (.int .i64) lim) (h2 : okD (.sl 47 (.st [(.int .i64), (.int .i64), (.int .i64)])) ms) : law39_StackPlays ws lim ms (fun y => some y) = some true := by
  unfold law39_StackPlays law39_StackPlays.body law39_known
  by_cases c0 : (ws.length : Int) > 60
  · rw [cond_neg (by rw [dt c0]; rfl)]
  by_cases c1 : (ms.length : Int) > 60
  · rw [cond_pos (not_t c0), cond_neg (by rw [dt c1]; rfl)]
  by_cases c2 : lim > 3000
  · rw [cond_pos (not_t c0), cond_pos (not_t c1), cond_pos (dt c2)]
  rw [cond_pos (not_t c0), cond_pos (not_t c1), cond_neg (df c2), mnew_ (by omega)]
  by_cases c3 : lim < 128
  · rw [snew0_ c3, rnew0_ c3, cond_pos (by rfl), cond_pos (by rfl)]
    obtain ⟨R, hR⟩ : ∃ R, ROUNDS = R + 1 := ⟨ROUNDS - 1, by unfold ROUNDS; rfl⟩
    rw [hR, none_, ← hR]
    refine (loadL false (by omega) _ _ ROUNDS 0 (by omega) (by unfold ROUNDS; omega)).trans ?_
    rw [Size_, cond_pos (by simp)]
  · rw [snew_ (by omega) (by omega), rnew_ (by omega) (by omega), cond_pos (by rfl), cond_neg (by rfl)]
    dsimp only [tt]
    have hlen : (ws ++ List.replicate (128 : Int).toNat 0).length = ws.length + 128 := by simp
    refine playL ms (by omega) _ _ lim ?_ ROUNDS 0 _ _ _ _ _ _ _ (by omega) (by unfold ROUNDS; omega) ⟨rfl, by omega, by omega, by omega, by omega, by omega, by omega, by omega, by omega⟩
    intro lo g hi sp al low ns h
    obtain ⟨i1, i2, i3, i4, i5, i6, i7, i8, i9⟩ := h
    refine (loadL true (by omega) _ _ ROUNDS 0 (by omega) (by unfold ROUNDS; omega)).trans ?_
    rw [Size_, cond_pos (by simp)]

end Go.Proofs.Ytefhednjdlblpaa.stackPlays
