/- What the plain functions answer: the law, without program or memory. -/
import Derived.Test.YtbplnfklimhdaaaMG
import Derived.IntWalk
import Derived.Laws.Strings
namespace Go.Proofs.Ytbplnfklimhdaaa.sumsPieces
open Go.AX Go.Proofs.Ytbplnfklimhdaaa.g
set_option linter.unusedVariables false
set_option linter.unusedSimpArgs false
theorem cond_ite (b : Bool) (x y : Option Bool) : cond_ b x y = if b = true then x else y := by cases b <;> rfl
@[simp] theorem cond_t (x y : Option Bool) : cond_ true x y = x := (cond_ite true x y).trans (if_pos rfl)
@[simp] theorem cond_f (x y : Option Bool) : cond_ false x y = y := (cond_ite false x y).trans (if_neg (by decide))
theorem cond_pos {b : Bool} {x y : Option Bool} (h : b = true) : cond_ b x y = x := by rw [h]; rfl
theorem cond_neg {b : Bool} {x y : Option Bool} (h : b = false) : cond_ b x y = y := by rw [h]; rfl
@[simp] theorem meet_self (x : Option Bool) : meet x x = x := by
  cases x with
  | none => rfl
  | some a => simp [meet]
theorem w64 {n : Int} (h1 : -9223372036854775808 ≤ n) (h2 : n ≤ 9223372036854775807) : IntKind.wrap .i64 n = n := IntWalk.i64_in n ⟨h1, h2⟩
theorem w8 {n : Int} (h1 : 0 ≤ n) (h2 : n ≤ 255) : IntKind.wrap .u8 n = n := IntWalk.u8_in n ⟨h1, h2⟩
theorem wu64 {n : Int} (h1 : 0 ≤ n) (h2 : n ≤ 18446744073709551615) : IntKind.wrap .u64 n = n := IntWalk.u64_in n ⟨h1, h2⟩
theorem ble_t {a b : Nat} (h : a ≤ b) : Nat.ble a b = true := by rw [Nat.ble_eq]; exact h
theorem ok64 {n : Int} (h : okD (.int .i64) n) : -9223372036854775808 ≤ n ∧ n ≤ 9223372036854775807 := by
  have := okD_int.1 h
  simpa [Lit.wf, IntKind.min, IntKind.max, IntKind.bits, IntKind.signed, i_] using this
theorem not_t {p : Prop} [Decidable p] (h : ¬p) : (!decide p) = true := by simp [h]
theorem not_f {p : Prop} [Decidable p] (h : p) : (!decide p) = false := by simp [h]
theorem cond_congr {b c : Bool} (h : b = c) (x y : Option Bool) : cond_ b x y = cond_ c x y := by rw [h]
attribute [local congr] cond_congr
theorem dt {p : Prop} [Decidable p] (h : p) : decide p = true := decide_eq_true h
theorem df {p : Prop} [Decidable p] (h : ¬p) : decide p = false := decide_eq_false h
theorem ieqt {a b : Int} (h : a = b) : (a == b) = true := by simp [h]
theorem ieqf {a b : Int} (h : a ≠ b) : (a == b) = false := by simp [h]
theorem inet {a b : Int} (h : a ≠ b) : (a != b) = true := by simp [h]
theorem inef {a b : Int} (h : a = b) : (a != b) = false := by simp [h]
theorem ble_f {a b : Nat} (h : b < a) : Nat.ble a b = false := by
  cases hb : Nat.ble a b with
  | false => rfl
  | true => rw [Nat.ble_eq] at hb; omega
theorem rounds_ : ∃ R, ROUNDS = R ∧ 1000000000 ≤ R := ⟨ROUNDS, rfl, by unfold ROUNDS; omega⟩
theorem w64_cong {a b : Int} (h : a % 18446744073709551616 = b % 18446744073709551616) : IntKind.wrap .i64 a = IntKind.wrap .i64 b := by
  rw [IntKind.wrap_i64, IntKind.wrap_i64]
  omega
theorem w64_mod (a : Int) : IntKind.wrap .i64 a % 18446744073709551616 = a % 18446744073709551616 := by
  rw [IntKind.wrap_i64]
  omega
theorem ofInt_nat (a : Int) : (BitVec.ofInt 64 a).toNat = (a % 18446744073709551616).toNat := by
  rw [BitVec.toNat_ofInt]
  rfl
theorem or_byte (U b : Int) (hb : 0 ≤ b ∧ b < 256) : IntKind.wrap .i64 (((BitVec.toNat ((BitVec.ofInt 64 (IntKind.wrap .i64 (IntKind.wrap .i64 U * 256))) ||| (BitVec.ofInt 64 (IntKind.wrap .i64 b)))) : Nat) : Int) = IntKind.wrap .i64 (U * 256 + b) := by
  apply w64_cong
  rw [BitVec.toNat_or, ofInt_nat, ofInt_nat, w64_mod, w64_mod]
  have e1 : (IntKind.wrap .i64 U * 256) % 18446744073709551616 = (U % 72057594037927936) * 256 := by
    have := w64_mod U
    omega
  have e2 : b % 18446744073709551616 = b := by omega
  rw [e1, e2]
  have e3 : ((U % 72057594037927936) * 256).toNat = (U % 72057594037927936).toNat <<< 8 := by
    rw [Nat.shiftLeft_eq]
    omega
  rw [e3, ← Nat.shiftLeft_add_eq_or_of_lt (by omega : b.toNat < 2 ^ 8), Nat.shiftLeft_eq]
  omega
/-- bytes as a number -/
def val (bs : List Int) : Int := bs.foldl (fun u b => u * 256 + b) 0
theorem val_snoc (bs : List Int) (b : Int) : val (bs ++ [b]) = val bs * 256 + b := by simp [val]
def bytesOk (ns : List Int) : Prop := ∀ x ∈ ns, 0 ≤ x ∧ x < 256
theorem cut_snoc {ns : List Int} {m i : Nat} (h : m + i < ns.length) : (ns.drop m).take (i + 1) = (ns.drop m).take i ++ [ns.getD (m + i) 0] := by
  rw [List.take_add_one]
  congr 1
  rw [List.getElem?_drop, List.getElem?_eq_getElem h, List.getD_eq_getElem?_getD, List.getElem?_eq_getElem h]
  rfl
theorem getD_ok {ns : List Int} (h : bytesOk ns) {i : Nat} (hi : i < ns.length) : 0 ≤ ns.getD i 0 ∧ ns.getD i 0 < 256 := by
  rw [List.getD_eq_getElem?_getD, List.getElem?_eq_getElem hi]
  exact h _ (List.getElem_mem _)
theorem val_lt {ns : List Int} (h : bytesOk ns) : ∀ (m i : Nat), m + i ≤ ns.length → 0 ≤ val ((ns.drop m).take i) ∧ val ((ns.drop m).take i) < 256 ^ i
  | m, 0, _ => by simp [val]
  | m, i + 1, hi => by
    have := val_lt h m i (by omega)
    have hb := getD_ok h (i := m + i) (by omega)
    rw [cut_snoc (by omega), val_snoc, Int.pow_succ]
    omega
theorem numL {ns : List Int} (h : bytesOk ns) (hl : ns.length ≤ 100000) {m l : Nat} (hm : m + l ≤ ns.length) (a : Int) (b c : Bool) (k : Int → Nat → Nat → Int → Bool → Bool → List Int → Option Bool) : ∀ (n i : Nat), i ≤ l → l - i < n →
    octet_number_L0v1 n (IntKind.wrap .i64 (val ((ns.drop m).take i))) m l m l ((l : Nat) : Int) ((i : Nat) : Int) a b c ns k = k (IntKind.wrap .i64 (val ((ns.drop m).take l))) m l a b c ns
  | 0, i, _, h2 => by omega
  | n + 1, i, h1, h2 => by
    rw [octet_number_L0v1]
    unfold octet_number_L0v1.body
    by_cases hi : i < l
    · have hb := getD_ok h (i := m + i) (by omega)
      rw [cond_pos (decide_eq_true (by omega)), cond_pos (by simp; omega), Int.toNat_natCast, or_byte _ _ hb, ← val_snoc, ← cut_snoc (by omega), w64 (n := (i : Int) + 1) (by omega) (by omega), show ((i : Nat) : Int) + 1 = ((i + 1 : Nat) : Int) by omega]
      exact numL h hl hm a b c k n (i + 1) (by omega) (by omega)
    · rw [cond_neg (decide_eq_false (by omega)), show i = l by omega]
/-- a sum's state -/
def stp (s : Int × Int) (b : Int) : Int × Int := ((s.1 + b) % 65521, (s.2 + (s.1 + b) % 65521) % 65521)
def stOk (s : Int × Int) : Prop := 0 ≤ s.1 ∧ s.1 < 65521 ∧ 0 ≤ s.2 ∧ s.2 < 65521
theorem stp_ok {s : Int × Int} (b : Int) : stOk (stp s b) := by unfold stOk stp; dsimp only; omega
theorem fold_ok : ∀ (l : List Int) {s : Int × Int}, stOk s → stOk (l.foldl stp s)
  | [], _, h => h
  | b :: r, s, _ => fold_ok r (stp_ok b)
theorem take_snoc {ns : List Int} {i : Nat} (h : i < ns.length) : ns.take (i + 1) = ns.take i ++ [ns.getD i 0] := by
  rw [List.take_add_one, List.getElem?_eq_getElem h, List.getD_eq_getElem?_getD, List.getElem?_eq_getElem h]
  rfl
theorem byte_at {ns : List Int} (h : bytesOk ns) {i : Nat} (hi : i < ns.length) : 0 ≤ ns.getD i 0 ∧ ns.getD i 0 < 256 := getD_ok h hi
theorem addL {ns : List Int} (h : bytesOk ns) (hl : ns.length ≤ 100000) {s : Int × Int} (hs : stOk s) (k : Int × Int × Bool × Unit → Option Bool) : ∀ (n i : Nat), i ≤ ns.length → ns.length - i < n →
    sum_Adder_Add_L0 n ns (ns.length : Int) (i : Int) (((ns.take i).foldl stp s).1, ((ns.take i).foldl stp s).2, true, ()) k = k ((ns.foldl stp s).1, (ns.foldl stp s).2, true, ())
  | 0, i, _, g => by omega
  | n + 1, i, g1, g2 => by
    rw [sum_Adder_Add_L0]
    unfold sum_Adder_Add_L0.body
    by_cases hi : i < ns.length
    · have hb := byte_at h hi
      have ih := addL h hl hs k n (i + 1) (by omega) (by omega)
      rw [take_snoc hi, List.foldl_append] at ih
      have ho := fold_ok (ns.take i) hs
      generalize (ns.take i).foldl stp s = t at ih ho ⊢
      obtain ⟨x, y⟩ := t
      obtain ⟨o1, o2, o3, o4⟩ := ho
      dsimp only at o1 o2 o3 o4 ⊢
      have e1 : Int.tmod (x + ns.getD i 0) 65521 = (x + ns.getD i 0) % 65521 := Int.tmod_eq_emod_of_nonneg (by omega)
      have e2 : Int.tmod (y + (x + ns.getD i 0) % 65521) 65521 = (y + (x + ns.getD i 0) % 65521) % 65521 := Int.tmod_eq_emod_of_nonneg (by omega)
      simp (disch := first | omega | (simp only [List.length_append, List.length_cons, List.length_nil, List.length_set, List.length_take, List.length_drop, List.length_replicate]; omega) | fail) only [cond_t, cond_f, dt, df, w64, wu64, w8, ble_t, ble_f, ieqt, ieqf, inet, inef, Bool.not_true, Bool.not_false, Bool.true_and, Bool.and_true, Bool.false_and, Bool.and_false, Bool.not_not, Int.toNat_natCast, List.length_append, List.length_cons, List.length_nil, meet_self, e1, e2]
      exact ih
    · simp (disch := first | omega | (simp only [List.length_append, List.length_cons, List.length_nil, List.length_set, List.length_take, List.length_drop, List.length_replicate]; omega) | fail) only [cond_t, cond_f, dt, df, w64, wu64, w8, ble_t, ble_f, ieqt, ieqf, inet, inef, Bool.not_true, Bool.not_false, Bool.true_and, Bool.and_true, Bool.false_and, Bool.and_false, Bool.not_not, Int.toNat_natCast, List.length_append, List.length_cons, List.length_nil, meet_self]
      rw [List.take_of_length_le (by omega)]
theorem add_ {ns : List Int} (h : bytesOk ns) (hl : ns.length ≤ 100000) {x y : Int} (hs : stOk (x, y)) (k : Int × Int × Bool × Unit → Option Bool) : sum_Adder_Add ns (x, y, true, ()) k = k ((ns.foldl stp (x, y)).1, (ns.foldl stp (x, y)).2, true, ()) := by
  unfold sum_Adder_Add sum_Adder_Add.body
  simp (disch := first | omega | (simp only [List.length_append, List.length_cons, List.length_nil, List.length_set, List.length_take, List.length_drop, List.length_replicate]; omega) | fail) only [cond_t, cond_f, dt, df, w64, wu64, w8, ble_t, ble_f, ieqt, ieqf, inet, inef, Bool.not_true, Bool.not_false, Bool.true_and, Bool.and_true, Bool.false_and, Bool.and_false, Bool.not_not, Int.toNat_natCast, List.length_append, List.length_cons, List.length_nil, meet_self]
  exact addL h hl hs k ROUNDS 0 (by omega) (by unfold ROUNDS; omega)
theorem add0_ {ns : List Int} {x y : Int} (k : Int × Int × Bool × Unit → Option Bool) : sum_Adder_Add ns (x, y, false, ()) k = k (x, y, false, ()) := by
  unfold sum_Adder_Add sum_Adder_Add.body
  simp (disch := first | omega | (simp only [List.length_append, List.length_cons, List.length_nil, List.length_set, List.length_take, List.length_drop, List.length_replicate]; omega) | fail) only [cond_t, cond_f, dt, df, w64, wu64, w8, ble_t, ble_f, ieqt, ieqf, inet, inef, Bool.not_true, Bool.not_false, Bool.true_and, Bool.and_true, Bool.false_and, Bool.and_false, Bool.not_not, Int.toNat_natCast, List.length_append, List.length_cons, List.length_nil, meet_self]
theorem or_two {x y : Int} (hx : 0 ≤ x ∧ x < 65521) (hy : 0 ≤ y ∧ y < 65521) : IntKind.wrap .i64 (((BitVec.toNat ((BitVec.ofInt 64 (IntKind.wrap .i64 (y * 65536))) ||| (BitVec.ofInt 64 x)) : Nat) : Int)) = y * 65536 + x := by
  rw [BitVec.toNat_or, ofInt_nat, ofInt_nat, w64 (n := y * 65536) (by omega) (by omega)]
  have e1 : (y * 65536 % 18446744073709551616).toNat = y.toNat <<< 16 := by rw [Nat.shiftLeft_eq]; omega
  have e2 : (x % 18446744073709551616).toNat = x.toNat := by omega
  rw [e1, e2, ← Nat.shiftLeft_add_eq_or_of_lt (by omega : x.toNat < 2 ^ 16), Nat.shiftLeft_eq, w64 (by omega) (by omega)]
  omega
def code (s : Int × Int) : Int := s.2 * 65536 + s.1
def sumOf (ns : List Int) : Int := code (ns.foldl stp (1, 0))
theorem st0 : stOk (1, 0) := by unfold stOk; dsimp only; omega
theorem sumOf_in (ns : List Int) : 0 ≤ sumOf ns ∧ sumOf ns < 4294967296 := by
  have h := fold_ok ns st0
  unfold stOk at h
  unfold sumOf code
  omega
theorem sum_ {x y : Int} (hs : stOk (x, y)) (k : Int → Int × Int × Bool × Unit → Option Bool) : sum_Adder_Sum (x, y, true, ()) k = k (code (x, y)) (x, y, true, ()) := by
  unfold sum_Adder_Sum sum_Adder_Sum.body
  obtain ⟨o1, o2, o3, o4⟩ := hs
  dsimp only at o1 o2 o3 o4 ⊢
  rw [or_two ⟨o1, o2⟩ ⟨o3, o4⟩]
  simp (disch := first | omega | (simp only [List.length_append, List.length_cons, List.length_nil, List.length_set, List.length_take, List.length_drop, List.length_replicate]; omega) | fail) only [cond_t, cond_f, dt, df, w64, wu64, w8, ble_t, ble_f, ieqt, ieqf, inet, inef, Bool.not_true, Bool.not_false, Bool.true_and, Bool.and_true, Bool.false_and, Bool.and_false, Bool.not_not, Int.toNat_natCast, List.length_append, List.length_cons, List.length_nil, meet_self]
  rfl
theorem sum0_ {x y : Int} (k : Int → Int × Int × Bool × Unit → Option Bool) : sum_Adder_Sum (x, y, false, ()) k = k 0 (x, y, false, ()) := by
  unfold sum_Adder_Sum sum_Adder_Sum.body
  simp (disch := first | omega | (simp only [List.length_append, List.length_cons, List.length_nil, List.length_set, List.length_take, List.length_drop, List.length_replicate]; omega) | fail) only [cond_t, cond_f, dt, df, w64, wu64, w8, ble_t, ble_f, ieqt, ieqf, inet, inef, Bool.not_true, Bool.not_false, Bool.true_and, Bool.and_true, Bool.false_and, Bool.and_false, Bool.not_not, Int.toNat_natCast, List.length_append, List.length_cons, List.length_nil, meet_self]
theorem rofL {ns : List Int} (h : bytesOk ns) (hl : ns.length ≤ 100000) (k : Int → Int → Option Bool) : ∀ (n i : Nat), i ≤ ns.length → ns.length - i < n →
    ref03_Of_L0 n ns ((ns.take i).foldl stp (1, 0)).1 ((ns.take i).foldl stp (1, 0)).2 (i : Int) k = k (ns.foldl stp (1, 0)).1 (ns.foldl stp (1, 0)).2
  | 0, i, _, g => by omega
  | n + 1, i, g1, g2 => by
    rw [ref03_Of_L0]
    unfold ref03_Of_L0.body
    by_cases hi : i < ns.length
    · have hb := byte_at h hi
      have ih := rofL h hl k n (i + 1) (by omega) (by omega)
      rw [take_snoc hi, List.foldl_append] at ih
      have ho := fold_ok (ns.take i) st0
      generalize (ns.take i).foldl stp (1, 0) = t at ih ho ⊢
      obtain ⟨x, y⟩ := t
      obtain ⟨o1, o2, o3, o4⟩ := ho
      dsimp only at o1 o2 o3 o4 ⊢
      have e1 : Int.tmod (x + ns.getD i 0) 65521 = (x + ns.getD i 0) % 65521 := Int.tmod_eq_emod_of_nonneg (by omega)
      have e2 : Int.tmod (y + (x + ns.getD i 0) % 65521) 65521 = (y + (x + ns.getD i 0) % 65521) % 65521 := Int.tmod_eq_emod_of_nonneg (by omega)
      simp (disch := first | omega | (simp only [List.length_append, List.length_cons, List.length_nil, List.length_set, List.length_take, List.length_drop, List.length_replicate]; omega) | fail) only [cond_t, cond_f, dt, df, w64, wu64, w8, ble_t, ble_f, ieqt, ieqf, inet, inef, Bool.not_true, Bool.not_false, Bool.true_and, Bool.and_true, Bool.false_and, Bool.and_false, Bool.not_not, Int.toNat_natCast, List.length_append, List.length_cons, List.length_nil, meet_self, e1, e2]
      exact ih
    · simp (disch := first | omega | (simp only [List.length_append, List.length_cons, List.length_nil, List.length_set, List.length_take, List.length_drop, List.length_replicate]; omega) | fail) only [cond_t, cond_f, dt, df, w64, wu64, w8, ble_t, ble_f, ieqt, ieqf, inet, inef, Bool.not_true, Bool.not_false, Bool.true_and, Bool.and_true, Bool.false_and, Bool.and_false, Bool.not_not, Int.toNat_natCast, List.length_append, List.length_cons, List.length_nil, meet_self]
      rw [List.take_of_length_le (by omega)]
theorem rof_ {ns : List Int} (h : bytesOk ns) (hl : ns.length ≤ 100000) (k : Int → Option Bool) : ref03_Of ns k = k (sumOf ns) := by
  unfold ref03_Of ref03_Of.body
  refine (rofL h hl _ ROUNDS 0 (by omega) (by unfold ROUNDS; omega)).trans ?_
  have ho := fold_ok ns st0
  unfold sumOf code
  obtain ⟨o1, o2, o3, o4⟩ := ho
  simp (disch := first | omega | (simp only [List.length_append, List.length_cons, List.length_nil, List.length_set, List.length_take, List.length_drop, List.length_replicate]; omega) | fail) only [cond_t, cond_f, dt, df, w64, wu64, w8, ble_t, ble_f, ieqt, ieqf, inet, inef, Bool.not_true, Bool.not_false, Bool.true_and, Bool.and_true, Bool.false_and, Bool.and_false, Bool.not_not, Int.toNat_natCast, List.length_append, List.length_cons, List.length_nil, meet_self]
theorem of_ {ns : List Int} (h : bytesOk ns) (hl : ns.length ≤ 100000) (k : Int → Option Bool) : sum_Of ns k = k (sumOf ns) := by
  unfold sum_Of sum_Of.body sum_New sum_New.body sum_feed sum_feed.body
  dsimp only
  rw [add_ h hl st0, sum_ (fold_ok ns st0)]
  rfl
theorem bytesOk_take {ns : List Int} (h : bytesOk ns) (i : Nat) : bytesOk (ns.take i) := fun x hx => h x (List.mem_of_mem_take hx)
theorem bytesOk_drop {ns : List Int} (h : bytesOk ns) (i : Nat) : bytesOk (ns.drop i) := fun x hx => h x (List.mem_of_mem_drop hx)
theorem bytesOk_of {ns : List Int} {e : Nat} (h : okD (.sl e (.int .u8)) ns) : bytesOk ns := fun x hx => by
  have := okD_int.1 ((okD_sl.1 h).2 x hx)
  simp [Lit.wf, IntKind.min, IntKind.max, IntKind.bits, IntKind.signed, i_] at this
  omega
theorem holds (ns : List Int) (a k : Int) (h0 : okD (.sl 5 (.int .u8)) ns) (h1 : okD (.int .i64) a) (h2 : okD (.int .i64) k) : law03_SumsPieces ns a k (fun y => some y) = some true := by
  have hb := bytesOk_of h0
  unfold law03_SumsPieces law03_SumsPieces.body law03_known sum_Adder_Addv1 sum_Adder_Addv1.body sum_Adder_Sumv1 sum_Adder_Sumv1.body sum_New sum_New.body
  dsimp only
  by_cases c1 : (ns.length : Int) > 2000
  · simp (disch := first | omega | (simp only [List.length_append, List.length_cons, List.length_nil, List.length_set, List.length_take, List.length_drop, List.length_replicate]; omega) | fail) only [cond_t, cond_f, dt, df, w64, wu64, w8, ble_t, ble_f, ieqt, ieqf, inet, inef, Bool.not_true, Bool.not_false, Bool.true_and, Bool.and_true, Bool.false_and, Bool.and_false, Bool.not_not, Int.toNat_natCast, List.length_append, List.length_cons, List.length_nil, meet_self]
  · by_cases c2 : a < 0
    · simp (disch := first | omega | (simp only [List.length_append, List.length_cons, List.length_nil, List.length_set, List.length_take, List.length_drop, List.length_replicate]; omega) | fail) only [cond_t, cond_f, dt, df, w64, wu64, w8, ble_t, ble_f, ieqt, ieqf, inet, inef, Bool.not_true, Bool.not_false, Bool.true_and, Bool.and_true, Bool.false_and, Bool.and_false, Bool.not_not, Int.toNat_natCast, List.length_append, List.length_cons, List.length_nil, meet_self]
    · by_cases c3 : a > (ns.length : Int)
      · simp (disch := first | omega | (simp only [List.length_append, List.length_cons, List.length_nil, List.length_set, List.length_take, List.length_drop, List.length_replicate]; omega) | fail) only [cond_t, cond_f, dt, df, w64, wu64, w8, ble_t, ble_f, ieqt, ieqf, inet, inef, Bool.not_true, Bool.not_false, Bool.true_and, Bool.and_true, Bool.false_and, Bool.and_false, Bool.not_not, Int.toNat_natCast, List.length_append, List.length_cons, List.length_nil, meet_self]
      · by_cases c4 : k < a
        · simp (disch := first | omega | (simp only [List.length_append, List.length_cons, List.length_nil, List.length_set, List.length_take, List.length_drop, List.length_replicate]; omega) | fail) only [cond_t, cond_f, dt, df, w64, wu64, w8, ble_t, ble_f, ieqt, ieqf, inet, inef, Bool.not_true, Bool.not_false, Bool.true_and, Bool.and_true, Bool.false_and, Bool.and_false, Bool.not_not, Int.toNat_natCast, List.length_append, List.length_cons, List.length_nil, meet_self]
        · by_cases c5 : k > (ns.length : Int)
          · simp (disch := first | omega | (simp only [List.length_append, List.length_cons, List.length_nil, List.length_set, List.length_take, List.length_drop, List.length_replicate]; omega) | fail) only [cond_t, cond_f, dt, df, w64, wu64, w8, ble_t, ble_f, ieqt, ieqf, inet, inef, Bool.not_true, Bool.not_false, Bool.true_and, Bool.and_true, Bool.false_and, Bool.and_false, Bool.not_not, Int.toNat_natCast, List.length_append, List.length_cons, List.length_nil, meet_self]
          · have hl1 : (ns.take a.toNat).length ≤ 100000 := by rw [List.length_take]; omega
            have o1 := fold_ok (ns.take a.toNat) st0
            have e1 : List.take (k - a).toNat (List.drop a.toNat ns) = (ns.take k.toNat).drop a.toNat := by
              rw [List.drop_take]
              congr 1
              omega
            have hl2 : ((ns.take k.toNat).drop a.toNat).length ≤ 100000 := by rw [List.length_drop, List.length_take]; omega
            have e2 : List.take (ns.length - k.toNat) (List.drop k.toNat ns) = ns.drop k.toNat := List.take_of_length_le (by rw [List.length_drop]; omega)
            have hl3 : (ns.drop k.toNat).length ≤ 100000 := by rw [List.length_drop]; omega
            have f1 : ((ns.take k.toNat).drop a.toNat).foldl stp ((ns.take a.toNat).foldl stp (1, 0)) = (ns.take k.toNat).foldl stp (1, 0) := by
              rw [← List.foldl_append]
              congr 1
              have : ns.take a.toNat = (ns.take k.toNat).take a.toNat := by rw [List.take_take]; congr 1; omega
              rw [this, List.take_append_drop]
            have f2 : (ns.drop k.toNat).foldl stp ((ns.take k.toNat).foldl stp (1, 0)) = ns.foldl stp (1, 0) := by
              rw [← List.foldl_append, List.take_append_drop]
            have o2 := fold_ok (ns.take k.toNat) st0
            have o3 := fold_ok ns st0
            have et : ∀ t : Int × Int, (t.1, t.2) = t := fun t => rfl
            try simp (disch := first | omega | (simp only [List.length_append, List.length_cons, List.length_nil, List.length_set, List.length_take, List.length_drop, List.length_replicate]; omega) | fail) only [cond_t, cond_f, dt, df, w64, wu64, w8, ble_t, ble_f, ieqt, ieqf, inet, inef, Bool.not_true, Bool.not_false, Bool.true_and, Bool.and_true, Bool.false_and, Bool.and_false, Bool.not_not, Int.toNat_natCast, List.length_append, List.length_cons, List.length_nil, meet_self, Int.sub_zero, List.drop_zero, e1, e2]
            rw [add_ (bytesOk_take hb _) hl1 st0, sum_ o1]
            try simp (disch := first | omega | (simp only [List.length_append, List.length_cons, List.length_nil, List.length_set, List.length_take, List.length_drop, List.length_replicate]; omega) | fail) only [cond_t, cond_f, dt, df, w64, wu64, w8, ble_t, ble_f, ieqt, ieqf, inet, inef, Bool.not_true, Bool.not_false, Bool.true_and, Bool.and_true, Bool.false_and, Bool.and_false, Bool.not_not, Int.toNat_natCast, List.length_append, List.length_cons, List.length_nil, meet_self]
            rw [add_ (bytesOk_drop (bytesOk_take hb _) _) hl2 o1]
            try simp (disch := first | omega | (simp only [List.length_append, List.length_cons, List.length_nil, List.length_set, List.length_take, List.length_drop, List.length_replicate]; omega) | fail) only [cond_t, cond_f, dt, df, w64, wu64, w8, ble_t, ble_f, ieqt, ieqf, inet, inef, Bool.not_true, Bool.not_false, Bool.true_and, Bool.and_true, Bool.false_and, Bool.and_false, Bool.not_not, Int.toNat_natCast, List.length_append, List.length_cons, List.length_nil, meet_self, et, f1]
            rw [add_ (bytesOk_drop hb _) hl3 o2]
            try simp (disch := first | omega | (simp only [List.length_append, List.length_cons, List.length_nil, List.length_set, List.length_take, List.length_drop, List.length_replicate]; omega) | fail) only [cond_t, cond_f, dt, df, w64, wu64, w8, ble_t, ble_f, ieqt, ieqf, inet, inef, Bool.not_true, Bool.not_false, Bool.true_and, Bool.and_true, Bool.false_and, Bool.and_false, Bool.not_not, Int.toNat_natCast, List.length_append, List.length_cons, List.length_nil, meet_self, et, f2]
            rw [add0_, rof_ (bytesOk_take hb _) hl1]
            try simp (disch := first | omega | (simp only [List.length_append, List.length_cons, List.length_nil, List.length_set, List.length_take, List.length_drop, List.length_replicate]; omega) | fail) only [cond_t, cond_f, dt, df, w64, wu64, w8, ble_t, ble_f, ieqt, ieqf, inet, inef, Bool.not_true, Bool.not_false, Bool.true_and, Bool.and_true, Bool.false_and, Bool.and_false, Bool.not_not, Int.toNat_natCast, List.length_append, List.length_cons, List.length_nil, meet_self, et]
            rw [sum_ o3, rof_ hb (by omega)]
            have g1 : code ((ns.take a.toNat).foldl stp (1, 0)) = sumOf (ns.take a.toNat) := rfl
            have g2 : code (ns.foldl stp (1, 0)) = sumOf ns := rfl
            try simp (disch := first | omega | (simp only [List.length_append, List.length_cons, List.length_nil, List.length_set, List.length_take, List.length_drop, List.length_replicate]; omega) | fail) only [cond_t, cond_f, dt, df, w64, wu64, w8, ble_t, ble_f, ieqt, ieqf, inet, inef, Bool.not_true, Bool.not_false, Bool.true_and, Bool.and_true, Bool.false_and, Bool.and_false, Bool.not_not, Int.toNat_natCast, List.length_append, List.length_cons, List.length_nil, meet_self, et, g1, g2]
            rw [sum0_]
            trace_state
            try simp (disch := first | omega | (simp only [List.length_append, List.length_cons, List.length_nil, List.length_set, List.length_take, List.length_drop, List.length_replicate]; omega) | fail) only [cond_t, cond_f, dt, df, w64, wu64, w8, ble_t, ble_f, ieqt, ieqf, inet, inef, Bool.not_true, Bool.not_false, Bool.true_and, Bool.and_true, Bool.false_and, Bool.and_false, Bool.not_not, Int.toNat_natCast, List.length_append, List.length_cons, List.length_nil, meet_self]

end Go.Proofs.Ytbplnfklimhdaaa.sumsPieces
