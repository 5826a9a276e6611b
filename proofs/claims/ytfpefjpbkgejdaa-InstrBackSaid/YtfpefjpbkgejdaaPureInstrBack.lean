/- What the plain functions answer: the law, without program or memory. -/
import Derived.Test.YtfpefjpbkgejdaaMG
import Derived.IntWalk
import Derived.Laws.Strings
namespace Go.Proofs.Ytfpefjpbkgejdaa.instrBack
open Go.AX Go.Proofs.Ytfpefjpbkgejdaa.g
set_option linter.unusedVariables false
set_option linter.unusedSimpArgs false
theorem cond_ite (b : Bool) (x y : Option Bool) : cond_ b x y = if b = true then x else y := by cases b <;> rfl
@[simp] theorem cond_t (x y : Option Bool) : cond_ true x y = x := (cond_ite true x y).trans (if_pos rfl)
@[simp] theorem cond_f (x y : Option Bool) : cond_ false x y = y := (cond_ite false x y).trans (if_neg (by decide))
theorem cond_pos {b : Bool} {x y : Option Bool} (h : b = true) : cond_ b x y = x := by rw [h]; rfl
theorem cond_neg {b : Bool} {x y : Option Bool} (h : b = false) : cond_ b x y = y := by rw [h]; rfl
@[simp] theorem meet_self (x : Option Bool) : meet x x = x := by
  cases x with
  | none => rfl
  | some a => simp [meet]
theorem w64 {n : Int} (h1 : -9223372036854775808 ≤ n) (h2 : n ≤ 9223372036854775807) : IntKind.wrap .i64 n = n := IntWalk.i64_in n ⟨h1, h2⟩
theorem w8 {n : Int} (h1 : 0 ≤ n) (h2 : n ≤ 255) : IntKind.wrap .u8 n = n := IntWalk.u8_in n ⟨h1, h2⟩
theorem wu64 {n : Int} (h1 : 0 ≤ n) (h2 : n ≤ 18446744073709551615) : IntKind.wrap .u64 n = n := IntWalk.u64_in n ⟨h1, h2⟩
theorem ble_t {a b : Nat} (h : a ≤ b) : Nat.ble a b = true := by rw [Nat.ble_eq]; exact h
theorem ok64 {n : Int} (h : okD (.int .i64) n) : -9223372036854775808 ≤ n ∧ n ≤ 9223372036854775807 := by
  have := okD_int.1 h
  simpa [Lit.wf, IntKind.min, IntKind.max, IntKind.bits, IntKind.signed, i_] using this
theorem not_t {p : Prop} [Decidable p] (h : ¬p) : (!decide p) = true := by simp [h]
theorem not_f {p : Prop} [Decidable p] (h : p) : (!decide p) = false := by simp [h]
theorem cond_congr {b c : Bool} (h : b = c) (x y : Option Bool) : cond_ b x y = cond_ c x y := by rw [h]
attribute [local congr] cond_congr
theorem dt {p : Prop} [Decidable p] (h : p) : decide p = true := decide_eq_true h
theorem df {p : Prop} [Decidable p] (h : ¬p) : decide p = false := decide_eq_false h
theorem ieqt {a b : Int} (h : a = b) : (a == b) = true := by simp [h]
theorem ieqf {a b : Int} (h : a ≠ b) : (a == b) = false := by simp [h]
theorem inet {a b : Int} (h : a ≠ b) : (a != b) = true := by simp [h]
theorem inef {a b : Int} (h : a = b) : (a != b) = false := by simp [h]
theorem ble_f {a b : Nat} (h : b < a) : Nat.ble a b = false := by
  cases hb : Nat.ble a b with
  | false => rfl
  | true => rw [Nat.ble_eq] at hb; omega
theorem rounds_ : ∃ R, ROUNDS = R ∧ 1000000000 ≤ R := ⟨ROUNDS, rfl, by unfold ROUNDS; omega⟩
theorem dTrue {i : Decidable True} : decide True = true := dt trivial
theorem dFalse {i : Decidable False} : decide False = false := df fun h => h
theorem if_iff {α : Type} {p q : Prop} [Decidable p] [Decidable q] (h : p ↔ q) (a b : α) : (if p then a else b) = (if q then a else b) := by
  by_cases hp : p
  · rw [if_pos hp, if_pos (h.1 hp)]
  · rw [if_neg hp, if_neg (fun g => hp (h.2 g))]
def u64 (n : Int) : Int := n % 18446744073709551616
theorem wu64_eq (n : Int) : IntKind.wrap .u64 n = u64 n := by
  simp [IntKind.wrap, IntKind.bits, IntKind.signed, u64]
/-- the last bytes of a number -/
def bts (u : Int) : Nat → List Int
  | 0 => []
  | m + 1 => (u / 256 ^ m) % 256 :: bts u m
theorem bts_len (u : Int) : ∀ m, (bts u m).length = m
  | 0 => rfl
  | m + 1 => by simp [bts, bts_len u m]
theorem w8_eq (n : Int) : IntKind.wrap .u8 n = n % 256 := by
  simp [IntKind.wrap, IntKind.bits, IntKind.signed]
theorem u64_lo (n : Int) : 0 ≤ u64 n ∧ u64 n < 18446744073709551616 := by unfold u64; omega
theorem innerL (u : Int) (ns : List Int) (K : Int → Int → Int → List Int → Option Bool) : ∀ (n : Nat) (i k x : Int), 0 ≤ k → k ≤ i → i ≤ 8 → 0 ≤ x → x < 18446744073709551616 → (i - k).toNat < n → ref02_Put_L0_L2 n u i x k ns K = K u i (x / 256 ^ (i - k).toNat) ns
  | 0, i, k, x, _, _, _, _, _, h => by omega
  | n + 1, i, k, x, h0, h1, h2, h3, h4, h5 => by
    rw [ref02_Put_L0_L2]
    unfold ref02_Put_L0_L2.body
    by_cases h : k < i
    · have e : IntKind.wrap .u64 (Int.tdiv x 256) = x / 256 := by
        rw [Int.tdiv_eq_ediv_of_nonneg h3, wu64 (by omega) (by omega)]
      rw [cond_pos (by simpa using h), e, w64 (by omega) (by omega), innerL u ns K n i (k + 1) (x / 256) (by omega) (by omega) h2 (by omega) (by omega) (by omega)]
      congr 1
      rw [show (i - k).toNat = (i - (k + 1)).toNat + 1 by omega, Int.pow_succ, Int.mul_comm, Int.ediv_ediv_of_nonneg (by omega)]
    · rw [cond_neg (by simpa using h)]
      rw [show (i - k).toNat = 0 by omega]
      simp
theorem outerL (u : Int) (hu : 0 ≤ u ∧ u < 18446744073709551616) (K : List Int → Option Bool) : ∀ (n : Nat) (m : Nat) (acc : List Int), m ≤ 8 → acc.length ≤ 4194304 - m → m < n → ref02_Put_L0 n u ((m : Int) - 1) acc K = K (acc ++ bts u m)
  | 0, m, acc, _, _, h => by omega
  | n + 1, 0, acc, _, _, h => by
    rw [ref02_Put_L0]
    unfold ref02_Put_L0.body
    rw [cond_neg (by simp)]
    simp [bts]
  | n + 1, m + 1, acc, h1, h2, h3 => by
    rw [ref02_Put_L0]
    unfold ref02_Put_L0.body
    rw [cond_pos (decide_eq_true (by omega)), innerL u acc _ ROUNDS _ 0 u (by omega) (by omega) (by omega) hu.1 hu.2 (by unfold ROUNDS; omega)]
    rw [show ((((m + 1 : Nat) : Int) - 1) - 0).toNat = m by omega]
    have hb : 0 ≤ u / 256 ^ m := Int.ediv_nonneg hu.1 (Int.pow_nonneg (by omega))
    have e : IntKind.wrap .u8 (Int.tmod (u / 256 ^ m) 256) = (u / 256 ^ m) % 256 := by
      rw [Int.tmod_eq_emod_of_nonneg hb, w8_eq]
      omega
    rw [e, ble_t (by simp; omega), cond_t, w64 (by omega) (by omega), show ((m + 1 : Nat) : Int) - 1 - 1 = (m : Int) - 1 by omega, outerL u hu K n m _ (by omega) (by simp; omega) (by omega)]
    rw [List.append_assoc]
    first | rfl | (simp [bts])
theorem rput_ {ns : List Int} (hl : ns.length ≤ 100000) (n w : Int) (k : List Int → Option Bool) : ref02_Put ns n w k = k (if w < 1 ∨ w > 8 then ns else ns ++ bts (u64 n) w.toNat) := by
  unfold ref02_Put ref02_Put.body
  rw [ble_t (by omega), cond_t]
  by_cases h1 : w < 1
  · rw [if_pos (.inl h1), cond_neg (not_f h1)]
  · by_cases h2 : w > 8
    · rw [if_pos (.inr h2), cond_pos (not_t h1), cond_pos (decide_eq_true h2)]
    · rw [if_neg (by omega), cond_pos (not_t h1), cond_neg (decide_eq_false h2), w64 (by omega) (by omega), wu64_eq]
      have := outerL (u64 n) (u64_lo n) (fun ns29 => k ns29) ROUNDS w.toNat ns (by omega) (by omega) (by unfold ROUNDS; omega)
      rw [show ((w.toNat : Nat) : Int) - 1 = w - 1 by omega] at this
      exact this
theorem fdiv_byte (n : Int) (m : Nat) (c : Int) (hc : c = 256 ^ m) (hm : m ≤ 7) : IntKind.wrap .u8 (Int.fdiv n c) = (u64 n / 256 ^ m) % 256 := by
  subst hc
  rw [w8_eq]
  have h0 : (0 : Int) ≤ 256 ^ m := Int.pow_nonneg (by omega)
  rw [Int.fdiv_eq_ediv_of_nonneg _ h0]
  unfold u64
  rcases m with _ | _ | _ | _ | _ | _ | _ | _ | m
  all_goals first | omega | (simp only [Nat.zero_add, Nat.reduceAdd, Int.reducePow] ; omega)
theorem putCells (ns : List Int) (n w : Int) (h1 : 1 ≤ w) (h2 : w ≤ 8) : List.take (Int.toNat (8 - (8 - w))) (List.drop (Int.toNat (8 - w)) ((IntKind.wrap .u8 (Int.fdiv n 72057594037927936)) :: (IntKind.wrap .u8 (Int.fdiv n 281474976710656)) :: (IntKind.wrap .u8 (Int.fdiv n 1099511627776)) :: (IntKind.wrap .u8 (Int.fdiv n 4294967296)) :: (IntKind.wrap .u8 (Int.fdiv n 16777216)) :: (IntKind.wrap .u8 (Int.fdiv n 65536)) :: (IntKind.wrap .u8 (Int.fdiv n 256)) :: (IntKind.wrap .u8 (Int.fdiv n 1)) :: [])) = bts (u64 n) w.toNat := by
  rw [fdiv_byte n 7 72057594037927936 rfl (by omega), fdiv_byte n 6 281474976710656 rfl (by omega), fdiv_byte n 5 1099511627776 rfl (by omega), fdiv_byte n 4 4294967296 rfl (by omega), fdiv_byte n 3 16777216 rfl (by omega), fdiv_byte n 2 65536 rfl (by omega), fdiv_byte n 1 256 rfl (by omega), fdiv_byte n 0 1 rfl (by omega)]
  have : w = 1 ∨ w = 2 ∨ w = 3 ∨ w = 4 ∨ w = 5 ∨ w = 6 ∨ w = 7 ∨ w = 8 := by omega
  rcases this with rfl | rfl | rfl | rfl | rfl | rfl | rfl | rfl <;> rfl
theorem w64_cong {a b : Int} (h : a % 18446744073709551616 = b % 18446744073709551616) : IntKind.wrap .i64 a = IntKind.wrap .i64 b := by
  rw [IntKind.wrap_i64, IntKind.wrap_i64]
  omega
theorem w64_mod (a : Int) : IntKind.wrap .i64 a % 18446744073709551616 = a % 18446744073709551616 := by
  rw [IntKind.wrap_i64]
  omega
theorem ofInt_nat (a : Int) : (BitVec.ofInt 64 a).toNat = (a % 18446744073709551616).toNat := by
  rw [BitVec.toNat_ofInt]
  rfl
theorem or_byte (U b : Int) (hb : 0 ≤ b ∧ b < 256) : IntKind.wrap .i64 (((BitVec.toNat ((BitVec.ofInt 64 (IntKind.wrap .i64 (IntKind.wrap .i64 U * 256))) ||| (BitVec.ofInt 64 (IntKind.wrap .i64 b)))) : Nat) : Int) = IntKind.wrap .i64 (U * 256 + b) := by
  apply w64_cong
  rw [BitVec.toNat_or, ofInt_nat, ofInt_nat, w64_mod, w64_mod]
  have e1 : (IntKind.wrap .i64 U * 256) % 18446744073709551616 = (U % 72057594037927936) * 256 := by
    have := w64_mod U
    omega
  have e2 : b % 18446744073709551616 = b := by omega
  rw [e1, e2]
  have e3 : ((U % 72057594037927936) * 256).toNat = (U % 72057594037927936).toNat <<< 8 := by
    rw [Nat.shiftLeft_eq]
    omega
  rw [e3, ← Nat.shiftLeft_add_eq_or_of_lt (by omega : b.toNat < 2 ^ 8), Nat.shiftLeft_eq]
  omega
/-- bytes as a number -/
def val (bs : List Int) : Int := bs.foldl (fun u b => u * 256 + b) 0
theorem val_snoc (bs : List Int) (b : Int) : val (bs ++ [b]) = val bs * 256 + b := by simp [val]
def bytesOk (ns : List Int) : Prop := ∀ x ∈ ns, 0 ≤ x ∧ x < 256
theorem cut_snoc {ns : List Int} {m i : Nat} (h : m + i < ns.length) : (ns.drop m).take (i + 1) = (ns.drop m).take i ++ [ns.getD (m + i) 0] := by
  rw [List.take_add_one]
  congr 1
  rw [List.getElem?_drop, List.getElem?_eq_getElem h, List.getD_eq_getElem?_getD, List.getElem?_eq_getElem h]
  rfl
theorem getD_ok {ns : List Int} (h : bytesOk ns) {i : Nat} (hi : i < ns.length) : 0 ≤ ns.getD i 0 ∧ ns.getD i 0 < 256 := by
  rw [List.getD_eq_getElem?_getD, List.getElem?_eq_getElem hi]
  exact h _ (List.getElem_mem _)
theorem val_lt {ns : List Int} (h : bytesOk ns) : ∀ (m i : Nat), m + i ≤ ns.length → 0 ≤ val ((ns.drop m).take i) ∧ val ((ns.drop m).take i) < 256 ^ i
  | m, 0, _ => by simp [val]
  | m, i + 1, hi => by
    have := val_lt h m i (by omega)
    have hb := getD_ok h (i := m + i) (by omega)
    rw [cut_snoc (by omega), val_snoc, Int.pow_succ]
    omega
theorem numL {ns : List Int} (h : bytesOk ns) (hl : ns.length ≤ 100000) {m l : Nat} (hm : m + l ≤ ns.length) (a : Int) (b c : Bool) (k : Int → Nat → Nat → Int → Bool → Bool → List Int → Option Bool) : ∀ (n i : Nat), i ≤ l → l - i < n →
    octet_number_L0v1 n (IntKind.wrap .i64 (val ((ns.drop m).take i))) m l m l ((l : Nat) : Int) ((i : Nat) : Int) a b c ns k = k (IntKind.wrap .i64 (val ((ns.drop m).take l))) m l a b c ns
  | 0, i, _, h2 => by omega
  | n + 1, i, h1, h2 => by
    rw [octet_number_L0v1]
    unfold octet_number_L0v1.body
    by_cases hi : i < l
    · have hb := getD_ok h (i := m + i) (by omega)
      rw [cond_pos (decide_eq_true (by omega)), cond_pos (by simp; omega), Int.toNat_natCast, or_byte _ _ hb, ← val_snoc, ← cut_snoc (by omega), w64 (n := (i : Int) + 1) (by omega) (by omega), show ((i : Nat) : Int) + 1 = ((i + 1 : Nat) : Int) by omega]
      exact numL h hl hm a b c k n (i + 1) (by omega) (by omega)
    · rw [cond_neg (decide_eq_false (by omega)), show i = l by omega]
theorem take_ {ns : List Int} (hl : ns.length ≤ 100000) {a : Int} (ha : 0 ≤ a ∧ a ≤ (ns.length : Int)) (w : Int) (bad : Bool) (k1 : Int → Bool → Bool → List Int → List Int → Option Bool) (k2 : Nat → Nat → Int → Bool → Bool → List Int → Option Bool) :
    octet_Reader_take w a true bad ns k1 k2 = if bad = true ∨ w < 0 ∨ w > (ns.length : Int) - a then k1 a true true ns [] else k2 a.toNat w.toNat (a + w) true bad ns := by
  unfold octet_Reader_take octet_Reader_take.body octet_Reader_Bad octet_Reader_Bad.body octet_Reader_Left octet_Reader_Left.body octet_Reader_spoil octet_Reader_spoil.body
  dsimp only
  rw [cond_pos (by rfl)]
  cases bad with
  | true => simp
  | false =>
    rw [cond_pos (by rfl)]
    by_cases h1 : w < 0
    · rw [cond_neg (not_f h1), if_pos (.inr (.inl h1))]
    · rw [cond_pos (not_t h1), w64 (n := (ns.length : Int) - a) (by omega) (by omega)]
      by_cases h2 : w > (ns.length : Int) - a
      · rw [cond_pos (decide_eq_true h2), if_pos (.inr (.inr h2))]
      · rw [cond_neg (decide_eq_false h2), if_neg (by simp; omega), w64 (n := a + w) (by omega) (by omega), w64 (n := a + w - w) (by omega) (by omega), cond_pos (by simp; omega)]
        rw [show a + w - w = a by omega, show a + w - a = w by omega]
theorem numNil (a : Int) (b c : Bool) (ns : List Int) (k : Int → Int → Bool → Bool → List Int → List Int → Option Bool) : octet_number_L0 ROUNDS 0 (([] : List Int).length : Int) 0 a b c ns [] k = k 0 a b c ns [] := by
  have e : octet_number_L0 ROUNDS = octet_number_L0 (1180591620717411303423 + 1) := rfl
  rw [e, octet_number_L0]
  simp [octet_number_L0.body]
theorem number_ {ns : List Int} (h : bytesOk ns) (hl : ns.length ≤ 100000) {a : Int} (ha : 0 ≤ a ∧ a ≤ (ns.length : Int)) (w : Int) (bad : Bool) (k1 : Int → Int → Bool → Bool → List Int → List Int → Option Bool) (k2 : Int → Nat → Nat → Int → Bool → Bool → List Int → Option Bool) :
    octet_number w a true bad ns k1 k2 = if bad = true ∨ w < 1 ∨ w > 8 ∨ w > (ns.length : Int) - a then k1 0 a true true ns [] else k2 (IntKind.wrap .i64 (val ((ns.drop a.toNat).take w.toNat))) a.toNat w.toNat (a + w) true bad ns := by
  unfold octet_number octet_number.body
  by_cases h1 : w < 1
  · rw [cond_neg (not_f h1), take_ hl ha, if_pos (by omega), if_pos (by omega), numNil]
  · rw [cond_pos (not_t h1)]
    by_cases h2 : w > 8
    · rw [cond_pos (decide_eq_true h2), take_ hl ha, if_pos (by omega), if_pos (by omega), numNil]
    · rw [cond_neg (decide_eq_false h2), take_ hl ha]
      by_cases h3 : bad = true ∨ w < 0 ∨ w > (ns.length : Int) - a
      · rw [if_pos h3, if_pos (by rcases h3 with h | h | h; exact .inl h; omega; exact .inr (.inr (.inr h))), numNil]
      · have h3' : ¬ (bad = true) := fun e => h3 (.inl e)
        rw [if_neg h3, if_neg (by rintro (h | h | h | h); exact h3' h; omega; omega; exact h3 (.inr (.inr h)))]
        have := numL h hl (m := a.toNat) (l := w.toNat) (by omega) (a + w) true bad (fun n168 m169 m170 n171 b172 b173 ns174 => k2 n168 m169 m170 n171 b172 b173 ns174) ROUNDS 0 (by omega) (by unfold ROUNDS; omega)
        rw [List.take_zero] at this
        exact this
theorem val_from : ∀ (bs : List Int) (u : Int), bs.foldl (fun u b => u * 256 + b) u = u * 256 ^ bs.length + val bs
  | [], u => by simp [val]
  | b :: r, u => by
    have e : val (b :: r) = b * 256 ^ r.length + val r := by
      show (b :: r).foldl (fun u b => u * 256 + b) 0 = _
      rw [List.foldl_cons, val_from r]
      simp
    rw [List.foldl_cons, val_from r, e, List.length_cons, Int.pow_succ, Int.add_mul, Int.mul_assoc, Int.mul_comm 256]
    omega
theorem val_first {ns : List Int} {m l : Nat} (h : m + (l + 1) ≤ ns.length) : val ((ns.drop m).take (l + 1)) = ns.getD m 0 * 256 ^ l + val ((ns.drop (m + 1)).take l) := by
  have hm : m < ns.length := by omega
  rw [List.drop_eq_getElem_cons hm, List.take_succ_cons, val, List.foldl_cons, val_from, List.length_take, List.length_drop, Nat.min_eq_left (by omega), List.getD_eq_getElem?_getD, List.getElem?_eq_getElem hm]
  simp
theorem pow8 : ∀ i : Nat, i ≤ 8 → (256 : Int) ^ i ≤ 18446744073709551616 := by
  intro i hi
  rcases i with _ | _ | _ | _ | _ | _ | _ | _ | _ | i
  all_goals first | omega | decide
abbrev Rd := List Int × Int × Bool × Unit
theorem rnumL {ns : List Int} (h : bytesOk ns) (hl : ns.length ≤ 100000) {a : Int} {w : Int} (ha : 0 ≤ a) (hw : w ≤ 8) (hm : a + w ≤ (ns.length : Int)) (s : Bool) (bad : Bool) (x : Int) (y : Bool) (k : Int → Bool → Int → Rd → Int → Bool → Option Bool) : ∀ (n i : Nat), (i : Int) ≤ w → (w - i).toNat < n →
    ref02_Num_L0 n w s (val ((ns.drop a.toNat).take i)) (i : Int) (ns, (a, (bad, ()))) x y k = k w s (val ((ns.drop a.toNat).take w.toNat)) (ns, (a, (bad, ()))) x y
  | 0, i, _, h2 => by omega
  | n + 1, i, h1, h2 => by
    rw [ref02_Num_L0]
    unfold ref02_Num_L0.body
    by_cases hi : (i : Int) < w
    · have hb := getD_ok h (i := a.toNat + i) (by omega)
      have hv := val_lt h a.toNat i (by omega)
      have hv2 := val_lt h a.toNat (i + 1) (by omega)
      have hp := pow8 (i + 1) (by omega)
      have e : (IntKind.wrap .i64 (a + (i : Int))) = a + (i : Int) := w64 (by omega) (by omega)
      have e2 : (a + (i : Int)).toNat = a.toNat + i := by omega
      rw [cut_snoc (by omega), val_snoc] at hv2
      dsimp only
      rw [cond_pos (decide_eq_true hi), e, e2, cond_pos (by simp; omega), wu64 (n := val ((ns.drop a.toNat).take i) * 256) (by omega) (by omega), wu64 (n := ns.getD (a.toNat + i) 0) (by omega) (by omega), wu64 (by omega) (by omega), ← val_snoc, ← cut_snoc (by omega), w64 (n := (i : Int) + 1) (by omega) (by omega), show ((i : Nat) : Int) + 1 = ((i + 1 : Nat) : Int) by omega]
      exact rnumL h hl ha hw hm s bad x y k n (i + 1) (by omega) (by omega)
    · rw [cond_neg (decide_eq_false hi), show w.toNat = i by omega]
theorem rtopL {w u : Int} (hw : w ≤ 7) (t : Rd) (x : Int) (y : Bool) (k : Int → Int → Int → Rd → Int → Bool → Option Bool) : ∀ (n i : Nat), (i : Int) ≤ w → (w - i).toNat < n → ref02_Num_L2 n w u (256 ^ i) (i : Int) t x y k = k w u (256 ^ w.toNat) t x y
  | 0, i, _, h2 => by omega
  | n + 1, i, h1, h2 => by
    rw [ref02_Num_L2]
    unfold ref02_Num_L2.body
    by_cases hi : (i : Int) < w
    · have hp : (256 : Int) ^ (i + 1) ≤ 72057594037927936 := by
        have : i ≤ 6 := by omega
        rcases i with _ | _ | _ | _ | _ | _ | _ | i
        all_goals first | omega | decide
      have hp0 : (0 : Int) ≤ 256 ^ (i + 1) := Int.pow_nonneg (by omega)
      rw [cond_pos (decide_eq_true hi), ← Int.pow_succ, wu64 hp0 (by omega), w64 (n := (i : Int) + 1) (by omega) (by omega), show ((i : Nat) : Int) + 1 = ((i + 1 : Nat) : Int) by omega]
      exact rtopL hw t x y k n (i + 1) (by omega) (by omega)
    · rw [cond_neg (decide_eq_false hi), show w.toNat = i by omega]
def sgn (ns : List Int) (a w : Int) : Int := if w < 8 ∧ 128 ≤ ns.getD a.toNat 0 then val ((ns.drop a.toNat).take w.toNat) - 256 ^ w.toNat else IntKind.wrap .i64 (val ((ns.drop a.toNat).take w.toNat))
theorem rnum_ {ns : List Int} (h : bytesOk ns) (hl : ns.length ≤ 100000) {a : Int} (ha : 0 ≤ a ∧ a ≤ (ns.length : Int)) (w : Int) (s bad : Bool) (k : Rd → Int → Option Bool) :
    ref02_Num (ns, (a, (bad, ()))) w s k = if bad = true ∨ w < 1 ∨ w > 8 ∨ w > (ns.length : Int) - a then k (ns, (a, (true, ()))) 0 else k (ns, (a + w, (bad, ()))) (if s = true then sgn ns a w else IntKind.wrap .i64 (val ((ns.drop a.toNat).take w.toNat))) := by
  unfold ref02_Num ref02_Num.body
  dsimp only
  cases bad with
  | true => simp
  | false =>
    rw [cond_pos (by rfl)]
    by_cases h1 : w < 1
    · rw [cond_neg (not_f h1), if_pos (.inr (.inl h1))]
    · rw [cond_pos (not_t h1)]
      by_cases h2 : w > 8
      · rw [cond_neg (not_f h2), if_pos (.inr (.inr (.inl h2)))]
      · rw [cond_pos (not_t h2), w64 (n := (ns.length : Int) - a) (by omega) (by omega)]
        by_cases h3 : w > (ns.length : Int) - a
        · rw [cond_pos (decide_eq_true h3), if_pos (.inr (.inr (.inr h3)))]
        · rw [cond_neg (decide_eq_false h3), if_neg (by simp; omega)]
          have hL := fun k => rnumL h hl (a := a) (w := w) ha.1 (by omega) (by omega) s false 0 false k ROUNDS 0 (by omega) (by unfold ROUNDS; omega)
          rw [List.take_zero] at hL
          have hL' := fun k => hL k
          refine (hL' _).trans ?_
          dsimp only
          rw [w64 (n := a + w) (by omega) (by omega)]
          cases s with
          | false => rfl
          | true =>
            rw [cond_pos rfl, if_pos rfl]
            unfold sgn
            by_cases h4 : w < 8
            · rw [cond_pos (decide_eq_true h4), cond_pos (by simp; omega)]
              by_cases h5 : 128 ≤ ns.getD a.toNat 0
              · rw [cond_pos (decide_eq_true h5), if_pos ⟨h4, h5⟩]
                have hv := val_lt h a.toNat w.toNat (by omega)
                have hp : (256 : Int) ^ w.toNat ≤ 72057594037927936 := by
                  have : w.toNat ≤ 7 := by omega
                  generalize w.toNat = j at this
                  rcases j with _ | _ | _ | _ | _ | _ | _ | _ | j
                  all_goals first | omega | decide
                have hT := rtopL (w := w) (u := val ((ns.drop a.toNat).take w.toNat)) (by omega) (ns, (a, (false, ()))) 0 false (fun n324 n325 n326 t327 n328 b329 => k (t327.1, (IntKind.wrap .i64 (t327.2.1 + n324), (t327.2.2.1, ()))) (IntKind.wrap .i64 (IntKind.wrap .u64 (n325 - n326)))) ROUNDS 0 (by omega) (by unfold ROUNDS; omega)
                refine hT.trans ?_
                dsimp only
                rw [w64 (n := a + w) (by omega) (by omega), wu64_eq]
                unfold u64
                congr 1
                rw [IntKind.wrap_i64]
                omega
              · rw [cond_neg (decide_eq_false h5), if_neg (fun h => h5 h.2)]
            · rw [cond_neg (decide_eq_false h4), if_neg (fun h => h4 h.1)]
theorem shl_ (V b0 R : Int) : ∀ w : Nat, 1 ≤ w → w ≤ 8 → V = b0 * 256 ^ (w - 1) + R → 0 ≤ R → R < 256 ^ (w - 1) → 0 ≤ b0 → b0 < 256 →
    Int.fdiv (IntKind.wrap .i64 (IntKind.wrap .i64 V * 2 ^ (8 * (8 - w)))) (2 ^ (8 * (8 - w))) = if w < 8 ∧ 128 ≤ b0 then V - 256 ^ w else IntKind.wrap .i64 V := by
  intro w h1 h2 hV hR0 hR1 hb0 hb1
  rw [Int.fdiv_eq_ediv_of_nonneg _ (Int.pow_nonneg (by omega)), IntKind.wrap_i64, IntKind.wrap_i64]
  rcases w with _ | _ | _ | _ | _ | _ | _ | _ | _ | w
  · omega
  all_goals first | omega | skip
  all_goals
    simp only [Nat.reduceAdd, Nat.reduceSub, Nat.reduceMul, Int.reducePow, Nat.zero_add, Int.pow_zero, Int.mul_one] at *
    split <;> omega
theorem num_ {ns : List Int} (h : bytesOk ns) (hl : ns.length ≤ 100000) {a : Int} (ha : 0 ≤ a ∧ a ≤ (ns.length : Int)) (w : Int) (bad : Bool) (k : Int → Int → Bool → Bool → List Int → Option Bool) :
    octet_Reader_Num w a true bad ns k = if bad = true ∨ w < 1 ∨ w > 8 ∨ w > (ns.length : Int) - a then k 0 a true true ns else k (IntKind.wrap .i64 (val ((ns.drop a.toNat).take w.toNat))) (a + w) true bad ns := by
  unfold octet_Reader_Num octet_Reader_Num.body
  rw [number_ h hl ha]
theorem signed_ {ns : List Int} (h : bytesOk ns) (hl : ns.length ≤ 100000) {a : Int} (ha : 0 ≤ a ∧ a ≤ (ns.length : Int)) (w : Int) (bad : Bool) (k : Int → Int → Bool → Bool → List Int → Option Bool) :
    octet_Reader_Signed w a true bad ns k = if bad = true ∨ w < 1 ∨ w > 8 ∨ w > (ns.length : Int) - a then k 0 a true true ns else k (sgn ns a w) (a + w) true bad ns := by
  unfold octet_Reader_Signed octet_Reader_Signed.body
  rw [number_ h hl ha]
  by_cases hf : bad = true ∨ w < 1 ∨ w > 8 ∨ w > (ns.length : Int) - a
  · rw [if_pos hf, if_pos hf, cond_pos (by rfl)]
  · rw [if_neg hf, if_neg hf]
    have h1 : 1 ≤ w ∧ w ≤ 8 ∧ w ≤ (ns.length : Int) - a := by
      refine ⟨?_, ?_, ?_⟩
      · exact Int.not_lt.1 fun g => hf (.inr (.inl g))
      · exact Int.not_lt.1 fun g => hf (.inr (.inr (.inl g)))
      · exact Int.not_lt.1 fun g => hf (.inr (.inr (.inr g)))
    have hw : ((w.toNat : Nat) : Int) = w := by omega
    rw [hw, w64 (n := 8 - w) (by omega) (by omega), wu64 (n := 8 - w) (by omega) (by omega), wu64 (n := 8 * (8 - w)) (by omega) (by omega), cond_neg (by simp; omega), cond_pos (by simp; omega), cond_pos (by simp; omega)]
    congr 1
    have hs : min (8 * (8 - w)).toNat 64 = 8 * (8 - w.toNat) := by omega
    have hlen : a.toNat + w.toNat ≤ ns.length := by omega
    obtain ⟨j, hj⟩ : ∃ j, w.toNat = j + 1 := ⟨w.toNat - 1, by omega⟩
    have hv := val_first (ns := ns) (m := a.toNat) (l := j) (by omega)
    have hr := val_lt h (a.toNat + 1) j (by omega)
    have hb := getD_ok h (i := a.toNat) (by omega)
    have := shl_ (val ((ns.drop a.toNat).take (j + 1))) (ns.getD a.toNat 0) (val ((ns.drop (a.toNat + 1)).take j)) (j + 1) (by omega) (by omega) (by simpa using hv) hr.1 (by simpa using hr.2) hb.1 hb.2
    rw [hs, hj, this]
    unfold sgn
    rw [hj]
    by_cases h4 : w < 8
    · have : j + 1 < 8 := by omega
      simp [h4, this]
    · have : ¬ j + 1 < 8 := by omega
      simp [h4, this]
theorem val_one {ns : List Int} {m : Nat} (hm : m < ns.length) : val ((ns.drop m).take 1) = ns.getD m 0 := by
  have := val_first (ns := ns) (m := m) (l := 0) (by omega)
  simpa [val] using this
theorem octet_Put_ {ns : List Int} (hl : ns.length ≤ 100000) (n w : Int) (k : List Int → Option Bool) : octet_Put ns n w k = k (if w < 1 ∨ w > 8 then ns else ns ++ bts (u64 n) w.toNat) := by
  unfold octet_Put octet_Put.body
  rw [ble_t (by omega), cond_t]
  by_cases h1 : w < 1
  · rw [if_pos (.inl h1), cond_neg (not_f h1)]; rfl
  · by_cases h2 : w > 8
    · rw [if_pos (.inr h2), cond_pos (not_t h1), cond_pos (decide_eq_true h2)]; rfl
    · rw [if_neg (by omega), cond_pos (not_t h1), cond_neg (decide_eq_false h2), w64 (n := 8 - w) (by omega) (by omega), cond_pos (by simp; omega), putCells ns n w (by omega) (by omega), ble_t (by rw [bts_len]; simp; omega), cond_t]
      rfl
theorem seqt {a b : ByteArray} (h : a = b) : (a.toList == b.toList) = true := by rw [h]; exact beq_self_eq_true _
theorem seqf {a b : ByteArray} (h : a ≠ b) : (a.toList == b.toList) = false := by
  rw [ByteArray.toList_eq, ByteArray.toList_eq, beq_eq_false_iff_ne]
  intro he
  apply h
  cases a with | mk a =>
  cases b with | mk b =>
  exact congrArg ByteArray.mk (Array.toList_inj.1 he)
theorem bytes_inj : ∀ {a b : List Int}, (∀ x ∈ a, 0 ≤ x ∧ x < 256) → (∀ x ∈ b, 0 ≤ x ∧ x < 256) → a.map (fun n => UInt8.ofNat n.toNat) = b.map (fun n => UInt8.ofNat n.toNat) → a = b
  | [], [], _, _, _ => rfl
  | [], _ :: _, _, _, h => by simp at h
  | _ :: _, [], _, _, h => by simp at h
  | x :: a, y :: b, ha, hb, h => by
    simp only [List.map_cons, List.cons.injEq] at h
    obtain ⟨h1, h2⟩ := h
    have hx := ha x List.mem_cons_self
    have hy := hb y List.mem_cons_self
    have e : x = y := by
      have := congrArg UInt8.toNat h1
      simp only [UInt8.toNat_ofNat'] at this
      omega
    rw [e, bytes_inj (fun z hz => ha z (List.mem_cons_of_mem _ hz)) (fun z hz => hb z (List.mem_cons_of_mem _ hz)) h2]
theorem strOf_inj {a b : List Int} (ha : ∀ x ∈ a, 0 ≤ x ∧ x < 256) (hb : ∀ x ∈ b, 0 ≤ x ∧ x < 256) (h : strOf a = strOf b) : a = b := by
  refine bytes_inj ha hb ?_
  have h := congrArg (fun s : ByteArray => s.data.toList) h
  simpa [strOf] using h
def names : List ByteArray := [(⟨#[110, 111, 112]⟩ : ByteArray), (⟨#[115, 101, 116]⟩ : ByteArray), (⟨#[109, 111, 118, 101]⟩ : ByteArray), (⟨#[97, 100, 100]⟩ : ByteArray), (⟨#[115, 117, 98]⟩ : ByteArray), (⟨#[109, 117, 108]⟩ : ByteArray), (⟨#[100, 105, 118]⟩ : ByteArray), (⟨#[109, 111, 100]⟩ : ByteArray), (⟨#[108, 101, 115, 115]⟩ : ByteArray), (⟨#[115, 97, 109, 101]⟩ : ByteArray), (⟨#[106, 117, 109, 112]⟩ : ByteArray), (⟨#[122, 101, 114, 111]⟩ : ByteArray), (⟨#[105, 110]⟩ : ByteArray), (⟨#[111, 117, 116]⟩ : ByteArray), (⟨#[108, 111, 97, 100]⟩ : ByteArray), (⟨#[115, 116, 111, 114, 101]⟩ : ByteArray), (⟨#[102, 117, 110, 99]⟩ : ByteArray), (⟨#[112, 105, 99, 107]⟩ : ByteArray), (⟨#[99, 97, 108, 108]⟩ : ByteArray), (⟨#[118, 105, 97]⟩ : ByteArray), (⟨#[100, 101, 102, 101, 114]⟩ : ByteArray), (⟨#[112, 97, 110, 105, 99]⟩ : ByteArray), (⟨#[114, 101, 99, 111, 118, 101, 114]⟩ : ByteArray), (⟨#[114, 101, 116, 117, 114, 110]⟩ : ByteArray), (⟨#[99, 104, 101, 99, 107]⟩ : ByteArray), (⟨#[101, 110, 116, 101, 114]⟩ : ByteArray), (⟨#[98, 111, 116, 116, 111, 109]⟩ : ByteArray), (⟨#[100, 114, 105, 118, 101, 114]⟩ : ByteArray)]
def shapes : List ByteArray := [(⟨#[45, 45, 45, 45]⟩ : ByteArray), (⟨#[119, 45, 45, 110]⟩ : ByteArray), (⟨#[119, 114, 45, 45]⟩ : ByteArray), (⟨#[119, 114, 114, 45]⟩ : ByteArray), (⟨#[119, 114, 114, 45]⟩ : ByteArray), (⟨#[119, 114, 114, 45]⟩ : ByteArray), (⟨#[119, 114, 114, 45]⟩ : ByteArray), (⟨#[119, 114, 114, 45]⟩ : ByteArray), (⟨#[119, 114, 114, 45]⟩ : ByteArray), (⟨#[119, 114, 114, 45]⟩ : ByteArray), (⟨#[45, 45, 45, 116]⟩ : ByteArray), (⟨#[114, 45, 45, 116]⟩ : ByteArray), (⟨#[119, 45, 45, 45]⟩ : ByteArray), (⟨#[114, 45, 45, 45]⟩ : ByteArray), (⟨#[119, 114, 45, 45]⟩ : ByteArray), (⟨#[114, 114, 45, 45]⟩ : ByteArray), (⟨#[103, 45, 45, 45]⟩ : ByteArray), (⟨#[103, 114, 45, 45]⟩ : ByteArray), (⟨#[99, 45, 45, 45]⟩ : ByteArray), (⟨#[99, 102, 107, 45]⟩ : ByteArray), (⟨#[100, 45, 45, 45]⟩ : ByteArray), (⟨#[114, 45, 45, 45]⟩ : ByteArray), (⟨#[119, 119, 45, 45]⟩ : ByteArray), (⟨#[118, 45, 45, 45]⟩ : ByteArray)]
abbrev eB : ByteArray := ⟨#[]⟩
def nameS (n : Int) : ByteArray := if 1 ≤ n ∧ n ≤ 28 then names.getD (n - 1).toNat ⟨#[]⟩ else ⟨#[]⟩
def shapeS (n : Int) : ByteArray := if 1 ≤ n ∧ n ≤ 24 then shapes.getD (n - 1).toNat ⟨#[]⟩ else ⟨#[]⟩
theorem name_ (n : Int) (k : ByteArray → Option Bool) : op_Name n k = k (nameS n) := by
  unfold op_Name op_Name.body op_names op_names.body nameS
  dsimp only
  by_cases h1 : n < 1
  · rw [if_neg (by omega)]
    simp (disch := first | omega | (simp only [List.length_append, List.length_cons, List.length_nil, List.length_set, List.length_take, List.length_drop, List.length_replicate]; omega) | fail) only [cond_t, cond_f, dt, df, w64, wu64, w8, ble_t, ble_f, ieqt, ieqf, inet, inef, Bool.not_true, Bool.not_false, Bool.true_and, Bool.and_true, Bool.false_and, Bool.and_false, Bool.not_not, dTrue, dFalse, Int.toNat_natCast, List.length_append, List.length_cons, List.length_nil, meet_self]
  · by_cases h2 : n > 28
    · rw [if_neg (by omega)]
      simp (disch := first | omega | (simp only [List.length_append, List.length_cons, List.length_nil, List.length_set, List.length_take, List.length_drop, List.length_replicate]; omega) | fail) only [cond_t, cond_f, dt, df, w64, wu64, w8, ble_t, ble_f, ieqt, ieqf, inet, inef, Bool.not_true, Bool.not_false, Bool.true_and, Bool.and_true, Bool.false_and, Bool.and_false, Bool.not_not, dTrue, dFalse, Int.toNat_natCast, List.length_append, List.length_cons, List.length_nil, meet_self]
    · rw [if_pos (by omega)]
      simp (disch := first | omega | (simp only [List.length_append, List.length_cons, List.length_nil, List.length_set, List.length_take, List.length_drop, List.length_replicate]; omega) | fail) only [cond_t, cond_f, dt, df, w64, wu64, w8, ble_t, ble_f, ieqt, ieqf, inet, inef, Bool.not_true, Bool.not_false, Bool.true_and, Bool.and_true, Bool.false_and, Bool.and_false, Bool.not_not, dTrue, dFalse, Int.toNat_natCast, List.length_append, List.length_cons, List.length_nil, meet_self]
      rfl
theorem rname_ (n : Int) (k : ByteArray → Option Bool) : ref07_Name n k = k (nameS n) := by
  have hl : names.length = 28 := rfl
  unfold ref07_Name ref07_Name.body ref07_names ref07_names.body nameS
  show cond_ (!decide (n < 1)) (cond_ (decide (n > (names.length : Int))) (k ⟨#[]⟩) (cond_ (decide (0 ≤ IntKind.wrap .i64 (n - 1)) && decide (IntKind.wrap .i64 (n - 1) < (names.length : Int))) (k (names.getD (IntKind.wrap .i64 (n - 1)).toNat ⟨#[]⟩)) none)) (k ⟨#[]⟩) = _
  by_cases h1 : n < 1
  · rw [if_neg (by omega)]
    simp (disch := first | omega | (simp only [List.length_append, List.length_cons, List.length_nil, List.length_set, List.length_take, List.length_drop, List.length_replicate]; omega) | fail) only [cond_t, cond_f, dt, df, w64, wu64, w8, ble_t, ble_f, ieqt, ieqf, inet, inef, Bool.not_true, Bool.not_false, Bool.true_and, Bool.and_true, Bool.false_and, Bool.and_false, Bool.not_not, dTrue, dFalse, Int.toNat_natCast, List.length_append, List.length_cons, List.length_nil, meet_self]
  · by_cases h2 : n > 28
    · rw [if_neg (by omega)]
      simp (disch := first | omega | (simp only [List.length_append, List.length_cons, List.length_nil, List.length_set, List.length_take, List.length_drop, List.length_replicate]; omega) | fail) only [cond_t, cond_f, dt, df, w64, wu64, w8, ble_t, ble_f, ieqt, ieqf, inet, inef, Bool.not_true, Bool.not_false, Bool.true_and, Bool.and_true, Bool.false_and, Bool.and_false, Bool.not_not, dTrue, dFalse, Int.toNat_natCast, List.length_append, List.length_cons, List.length_nil, meet_self]
    · rw [if_pos (by omega)]
      simp (disch := first | omega | (simp only [List.length_append, List.length_cons, List.length_nil, List.length_set, List.length_take, List.length_drop, List.length_replicate]; omega) | fail) only [cond_t, cond_f, dt, df, w64, wu64, w8, ble_t, ble_f, ieqt, ieqf, inet, inef, Bool.not_true, Bool.not_false, Bool.true_and, Bool.and_true, Bool.false_and, Bool.and_false, Bool.not_not, dTrue, dFalse, Int.toNat_natCast, List.length_append, List.length_cons, List.length_nil, meet_self]
theorem shape_ (n : Int) (k : ByteArray → Option Bool) : op_Shape n k = k (shapeS n) := by
  unfold op_Shape op_Shape.body op_Own op_Own.body op_shapes op_shapes.body shapeS
  dsimp only
  by_cases h1 : n < 1
  · rw [if_neg (by omega)]
    simp (disch := first | omega | (simp only [List.length_append, List.length_cons, List.length_nil, List.length_set, List.length_take, List.length_drop, List.length_replicate]; omega) | fail) only [cond_t, cond_f, dt, df, w64, wu64, w8, ble_t, ble_f, ieqt, ieqf, inet, inef, Bool.not_true, Bool.not_false, Bool.true_and, Bool.and_true, Bool.false_and, Bool.and_false, Bool.not_not, dTrue, dFalse, Int.toNat_natCast, List.length_append, List.length_cons, List.length_nil, meet_self]
  · by_cases h2 : n > 24
    · rw [if_neg (by omega)]
      simp (disch := first | omega | (simp only [List.length_append, List.length_cons, List.length_nil, List.length_set, List.length_take, List.length_drop, List.length_replicate]; omega) | fail) only [cond_t, cond_f, dt, df, w64, wu64, w8, ble_t, ble_f, ieqt, ieqf, inet, inef, Bool.not_true, Bool.not_false, Bool.true_and, Bool.and_true, Bool.false_and, Bool.and_false, Bool.not_not, dTrue, dFalse, Int.toNat_natCast, List.length_append, List.length_cons, List.length_nil, meet_self]
    · rw [if_pos (by omega)]
      simp (disch := first | omega | (simp only [List.length_append, List.length_cons, List.length_nil, List.length_set, List.length_take, List.length_drop, List.length_replicate]; omega) | fail) only [cond_t, cond_f, dt, df, w64, wu64, w8, ble_t, ble_f, ieqt, ieqf, inet, inef, Bool.not_true, Bool.not_false, Bool.true_and, Bool.and_true, Bool.false_and, Bool.and_false, Bool.not_not, dTrue, dFalse, Int.toNat_natCast, List.length_append, List.length_cons, List.length_nil, meet_self]
      rfl
theorem rshape_ (n : Int) (k : ByteArray → Option Bool) : ref07_Shape n k = k (shapeS n) := by
  by_cases h1 : 1 ≤ n ∧ n ≤ 28
  · have : n = 1 ∨ n = 2 ∨ n = 3 ∨ n = 4 ∨ n = 5 ∨ n = 6 ∨ n = 7 ∨ n = 8 ∨ n = 9 ∨ n = 10 ∨ n = 11 ∨ n = 12 ∨ n = 13 ∨ n = 14 ∨ n = 15 ∨ n = 16 ∨ n = 17 ∨ n = 18 ∨ n = 19 ∨ n = 20 ∨ n = 21 ∨ n = 22 ∨ n = 23 ∨ n = 24 ∨ n = 25 ∨ n = 26 ∨ n = 27 ∨ n = 28 := by omega
    rcases this with rfl | rfl | rfl | rfl | rfl | rfl | rfl | rfl | rfl | rfl | rfl | rfl | rfl | rfl | rfl | rfl | rfl | rfl | rfl | rfl | rfl | rfl | rfl | rfl | rfl | rfl | rfl | rfl <;> (show _ = _ ; kernel_rfl)
  · have e : nameS n = ⟨#[]⟩ := by unfold nameS; rw [if_neg h1]
    have e2 : shapeS n = ⟨#[]⟩ := by unfold shapeS; rw [if_neg (by omega)]
    unfold ref07_Shape ref07_Shape.body
    rw [e2]
    by_cases h2 : n < 1
    · simp (disch := first | omega | (simp only [List.length_append, List.length_cons, List.length_nil, List.length_set, List.length_take, List.length_drop, List.length_replicate]; omega) | fail) only [cond_t, cond_f, dt, df, w64, wu64, w8, ble_t, ble_f, ieqt, ieqf, inet, inef, Bool.not_true, Bool.not_false, Bool.true_and, Bool.and_true, Bool.false_and, Bool.and_false, Bool.not_not, dTrue, dFalse, Int.toNat_natCast, List.length_append, List.length_cons, List.length_nil, meet_self, rname_, e]
      show _ = _
      kernel_rfl
    · simp (disch := first | omega | (simp only [List.length_append, List.length_cons, List.length_nil, List.length_set, List.length_take, List.length_drop, List.length_replicate]; omega) | fail) only [cond_t, cond_f, dt, df, w64, wu64, w8, ble_t, ble_f, ieqt, ieqf, inet, inef, Bool.not_true, Bool.not_false, Bool.true_and, Bool.and_true, Bool.false_and, Bool.and_false, Bool.not_not, dTrue, dFalse, Int.toNat_natCast, List.length_append, List.length_cons, List.length_nil, meet_self, rname_, e]
      show _ = _
      kernel_rfl
theorem shapeS_size (n : Int) : (shapeS n).size ≤ 4 := by
  unfold shapeS
  split
  · have : ∀ i, (shapes.getD i ⟨#[]⟩).size ≤ 4 := by
      intro i
      rcases Nat.lt_or_ge i 24 with h | h
      · have : i = 0 ∨ i = 1 ∨ i = 2 ∨ i = 3 ∨ i = 4 ∨ i = 5 ∨ i = 6 ∨ i = 7 ∨ i = 8 ∨ i = 9 ∨ i = 10 ∨ i = 11 ∨ i = 12 ∨ i = 13 ∨ i = 14 ∨ i = 15 ∨ i = 16 ∨ i = 17 ∨ i = 18 ∨ i = 19 ∨ i = 20 ∨ i = 21 ∨ i = 22 ∨ i = 23 := by omega
        rcases this with rfl | rfl | rfl | rfl | rfl | rfl | rfl | rfl | rfl | rfl | rfl | rfl | rfl | rfl | rfl | rfl | rfl | rfl | rfl | rfl | rfl | rfl | rfl | rfl <;> decide
      · rw [List.getD_eq_getElem?_getD, List.getElem?_eq_none (by exact h)]
        decide
    exact this _
  · decide
abbrev In := Int × Int × Int × Int × Int × Unit
def fields (x : In) : List Int := [x.2.1, x.2.2.1, x.2.2.2.1, x.2.2.2.2.1]
def operS (x : In) (i : Int) : Int := if i = 0 then x.2.1 else if i = 1 then x.2.2.1 else if i = 2 then x.2.2.2.1 else if i = 3 then x.2.2.2.2.1 else 0
theorem roperand_ (x : In) (i : Int) (k : Int → Option Bool) : ref08_Operand x i k = k (operS x i) := by
  unfold ref08_Operand ref08_Operand.body operS
  by_cases h0 : i = 0
  · subst h0; rfl
  · rw [if_neg h0, cond_neg (ieqf h0)]
    by_cases h1 : i = 1
    · subst h1; rfl
    · rw [if_neg h1, cond_neg (ieqf h1)]
      by_cases h2 : i = 2
      · subst h2; rfl
      · rw [if_neg h2, cond_neg (ieqf h2)]
        by_cases h3 : i = 3
        · subst h3; rfl
        · rw [if_neg h3, cond_neg (ieqf h3)]
theorem fields_oper (x : In) (i : Nat) (h : i < 4) : (fields x).getD i 0 = operS x (i : Int) := by
  have : i = 0 ∨ i = 1 ∨ i = 2 ∨ i = 3 := by omega
  rcases this with rfl | rfl | rfl | rfl <;> rfl
theorem operand_ (x : In) (i : Int) (k : Int → Option Bool) : instr_Operand x i k = k (operS x i) := by
  unfold instr_Operand instr_Operand.body instr_numbers instr_numbers.body
  dsimp only
  by_cases h0 : i < 0
  · have : operS x i = 0 := by unfold operS; rw [if_neg (by omega), if_neg (by omega), if_neg (by omega), if_neg (by omega)]
    rw [this]
    simp (disch := first | omega | (simp only [List.length_append, List.length_cons, List.length_nil, List.length_set, List.length_take, List.length_drop, List.length_replicate]; omega) | fail) only [cond_t, cond_f, dt, df, w64, wu64, w8, ble_t, ble_f, ieqt, ieqf, inet, inef, Bool.not_true, Bool.not_false, Bool.true_and, Bool.and_true, Bool.false_and, Bool.and_false, Bool.not_not, dTrue, dFalse, Int.toNat_natCast, List.length_append, List.length_cons, List.length_nil, meet_self]
  · by_cases h1 : i > 3
    · have : operS x i = 0 := by unfold operS; rw [if_neg (by omega), if_neg (by omega), if_neg (by omega), if_neg (by omega)]
      rw [this]
      simp (disch := first | omega | (simp only [List.length_append, List.length_cons, List.length_nil, List.length_set, List.length_take, List.length_drop, List.length_replicate]; omega) | fail) only [cond_t, cond_f, dt, df, w64, wu64, w8, ble_t, ble_f, ieqt, ieqf, inet, inef, Bool.not_true, Bool.not_false, Bool.true_and, Bool.and_true, Bool.false_and, Bool.and_false, Bool.not_not, dTrue, dFalse, Int.toNat_natCast, List.length_append, List.length_cons, List.length_nil, meet_self]
    · have e : (1 + i).toNat = i.toNat + 1 := by omega
      have e2 := fields_oper x i.toNat (by omega)
      rw [show ((i.toNat : Nat) : Int) = i by omega] at e2
      simp (disch := first | omega | (simp only [List.length_append, List.length_cons, List.length_nil, List.length_set, List.length_take, List.length_drop, List.length_replicate]; omega) | fail) only [cond_t, cond_f, dt, df, w64, wu64, w8, ble_t, ble_f, ieqt, ieqf, inet, inef, Bool.not_true, Bool.not_false, Bool.true_and, Bool.and_true, Bool.false_and, Bool.and_false, Bool.not_not, dTrue, dFalse, Int.toNat_natCast, List.length_append, List.length_cons, List.length_nil, meet_self, e, List.getD_cons_succ]
      rw [← e2]
      rfl
def withS (x : In) (i n : Int) : In := if i = 0 then (x.1, n, x.2.2.1, x.2.2.2.1, x.2.2.2.2.1, ()) else if i = 1 then (x.1, x.2.1, n, x.2.2.2.1, x.2.2.2.2.1, ()) else if i = 2 then (x.1, x.2.1, x.2.2.1, n, x.2.2.2.2.1, ()) else if i = 3 then (x.1, x.2.1, x.2.2.1, x.2.2.2.1, n, ()) else x
theorem rwith_ (x : In) (i n : Int) (k : In → Option Bool) : ref08_With x i n k = k (withS x i n) := by
  unfold ref08_With ref08_With.body withS
  by_cases h0 : i = 0
  · subst h0; rfl
  · rw [if_neg h0, cond_neg (ieqf h0)]
    by_cases h1 : i = 1
    · subst h1; rfl
    · rw [if_neg h1, cond_neg (ieqf h1)]
      by_cases h2 : i = 2
      · subst h2; rfl
      · rw [if_neg h2, cond_neg (ieqf h2)]
        by_cases h3 : i = 3
        · subst h3; rfl
        · rw [if_neg h3, cond_neg (ieqf h3)]
theorem with_ (x : In) (i n : Int) (k : In → Option Bool) : instr_With x i n k = k (withS x i n) := by
  unfold instr_With instr_With.body withS
  by_cases h3 : i = 3
  · subst h3; rfl
  · by_cases h0 : i = 0
    · subst h0; rfl
    · by_cases h1 : i = 1
      · subst h1; rfl
      · by_cases h2 : i = 2
        · subst h2; rfl
        · rw [if_neg h0, if_neg h1, if_neg h2, if_neg h3]
          by_cases h4 : i ≥ 0
          · simp (disch := first | omega | (simp only [List.length_append, List.length_cons, List.length_nil, List.length_set, List.length_take, List.length_drop, List.length_replicate]; omega) | fail) only [cond_t, cond_f, dt, df, w64, wu64, w8, ble_t, ble_f, ieqt, ieqf, inet, inef, Bool.not_true, Bool.not_false, Bool.true_and, Bool.and_true, Bool.false_and, Bool.and_false, Bool.not_not, dTrue, dFalse, Int.toNat_natCast, List.length_append, List.length_cons, List.length_nil, meet_self]
          · simp (disch := first | omega | (simp only [List.length_append, List.length_cons, List.length_nil, List.length_set, List.length_take, List.length_drop, List.length_replicate]; omega) | fail) only [cond_t, cond_f, dt, df, w64, wu64, w8, ble_t, ble_f, ieqt, ieqf, inet, inef, Bool.not_true, Bool.not_false, Bool.true_and, Bool.and_true, Bool.false_and, Bool.and_false, Bool.not_not, dTrue, dFalse, Int.toNat_natCast, List.length_append, List.length_cons, List.length_nil, meet_self]
theorem ex_step {P : Nat → Prop} {i m : Nat} (h : i < m) : (∃ j, i ≤ j ∧ j < m ∧ P j) ↔ P i ∨ ∃ j, i + 1 ≤ j ∧ j < m ∧ P j := by
  constructor
  · rintro ⟨j, h1, h2, h3⟩
    by_cases e : i = j
    · subst e; exact .inl h3
    · exact .inr ⟨j, by omega, h2, h3⟩
  · rintro (h1 | ⟨j, h1, h2, h3⟩)
    · exact ⟨i, Nat.le_refl _, h, h1⟩
    · exact ⟨j, by omega, h2, h3⟩
theorem ex_none {P : Nat → Prop} {i m : Nat} (h : ¬ i < m) : ¬ ∃ j, i ≤ j ∧ j < m ∧ P j := by
  rintro ⟨j, h1, h2, _⟩
  omega
def outAt (x : In) (i : Nat) : Prop := operS x (i : Int) < 0 ∨ operS x (i : Int) > 255
def dashAt (s : ByteArray) (i : Nat) : Prop := ((UInt8.toNat (List.getD s.data.toList i 0) : Nat) : Int) = 45
open Classical in
noncomputable def checkI (x : In) : Int := if (nameS x.1).toList = [] then 8 else if ∃ j, 0 ≤ j ∧ j < 3 ∧ outAt x j then 9 else if x.2.2.2.2.1 < -2147483648 ∨ x.2.2.2.2.1 > 2147483647 then 9 else if ∃ j, 0 ≤ j ∧ j < (shapeS x.1).size ∧ (dashAt (shapeS x.1) j ∧ operS x (j : Int) ≠ 0) then 2 else 0
open Classical in
theorem rchkL (x : In) (k1 : Int → Option Bool) (k2 : In → Option Bool) : ∀ (n i : Nat), i ≤ 3 → 3 - i < n → ref08_Check_L0 n (i : Int) x k1 k2 = if ∃ j, i ≤ j ∧ j < 3 ∧ outAt x j then k1 9 else k2 x
  | 0, i, _, h => by omega
  | n + 1, i, h0, h1 => by
    rw [ref08_Check_L0]
    unfold ref08_Check_L0.body
    by_cases h : i < 3
    · rw [if_iff (ex_step h)]
      have ih := rchkL x k1 k2 n (i + 1) (by omega) (by omega)
      rw [cond_pos (dt (by omega)), roperand_, roperand_, w64 (n := (i : Int) + 1) (by omega) (by omega), show (i : Int) + 1 = ((i + 1 : Nat) : Int) by omega, ih]
      by_cases hb : outAt x i
      · rw [if_pos (Or.inl hb)]
        unfold outAt at hb
        by_cases g : operS x (i : Int) < 0
        · simp (disch := first | omega | (simp only [List.length_append, List.length_cons, List.length_nil, List.length_set, List.length_take, List.length_drop, List.length_replicate]; omega) | fail) only [cond_t, cond_f, dt, df, w64, wu64, w8, ble_t, ble_f, ieqt, ieqf, inet, inef, Bool.not_true, Bool.not_false, Bool.true_and, Bool.and_true, Bool.false_and, Bool.and_false, Bool.not_not, dTrue, dFalse, Int.toNat_natCast, List.length_append, List.length_cons, List.length_nil, meet_self]
        · simp (disch := first | omega | (simp only [List.length_append, List.length_cons, List.length_nil, List.length_set, List.length_take, List.length_drop, List.length_replicate]; omega) | fail) only [cond_t, cond_f, dt, df, w64, wu64, w8, ble_t, ble_f, ieqt, ieqf, inet, inef, Bool.not_true, Bool.not_false, Bool.true_and, Bool.and_true, Bool.false_and, Bool.and_false, Bool.not_not, dTrue, dFalse, Int.toNat_natCast, List.length_append, List.length_cons, List.length_nil, meet_self]
      · rw [if_iff (or_iff_right hb)]
        unfold outAt at hb
        simp (disch := first | omega | (simp only [List.length_append, List.length_cons, List.length_nil, List.length_set, List.length_take, List.length_drop, List.length_replicate]; omega) | fail) only [cond_t, cond_f, dt, df, w64, wu64, w8, ble_t, ble_f, ieqt, ieqf, inet, inef, Bool.not_true, Bool.not_false, Bool.true_and, Bool.and_true, Bool.false_and, Bool.and_false, Bool.not_not, dTrue, dFalse, Int.toNat_natCast, List.length_append, List.length_cons, List.length_nil, meet_self]
    · rw [if_neg (ex_none h)]
      simp (disch := first | omega | (simp only [List.length_append, List.length_cons, List.length_nil, List.length_set, List.length_take, List.length_drop, List.length_replicate]; omega) | fail) only [cond_t, cond_f, dt, df, w64, wu64, w8, ble_t, ble_f, ieqt, ieqf, inet, inef, Bool.not_true, Bool.not_false, Bool.true_and, Bool.and_true, Bool.false_and, Bool.and_false, Bool.not_not, dTrue, dFalse, Int.toNat_natCast, List.length_append, List.length_cons, List.length_nil, meet_self]
open Classical in
theorem chkL (x : In) (k1 : Int → Option Bool) (k2 : In → Int → Int → Int → Int → Int → Option Bool) : ∀ (n i : Nat), i ≤ 3 → 3 - i < n → instr_Check_L0 n 3 (i : Int) x x.1 x.2.1 x.2.2.1 x.2.2.2.1 x.2.2.2.2.1 k1 k2 = if ∃ j, i ≤ j ∧ j < 3 ∧ outAt x j then k1 9 else k2 x x.1 x.2.1 x.2.2.1 x.2.2.2.1 x.2.2.2.2.1
  | 0, i, _, h => by omega
  | n + 1, i, h0, h1 => by
    rw [instr_Check_L0]
    unfold instr_Check_L0.body
    by_cases h : i < 3
    · rw [if_iff (ex_step h)]
      have ih := chkL x k1 k2 n (i + 1) (by omega) (by omega)
      have e : List.getD (x.1 :: (x.2.1 :: (x.2.2.1 :: (x.2.2.2.1 :: (x.2.2.2.2.1 :: []))))) (1 + ((i : Int)).toNat) 0 = operS x (i : Int) := by
        rw [Int.toNat_natCast, Nat.add_comm, List.getD_cons_succ]
        exact fields_oper x i (by omega)
      rw [cond_pos (dt (by omega)), cond_pos (by simp; omega), e, w64 (n := (i : Int) + 1) (by omega) (by omega), show (i : Int) + 1 = ((i + 1 : Nat) : Int) by omega, ih]
      by_cases hb : outAt x i
      · rw [if_pos (Or.inl hb)]
        unfold outAt at hb
        by_cases g : operS x (i : Int) < 0
        · simp (disch := first | omega | (simp only [List.length_append, List.length_cons, List.length_nil, List.length_set, List.length_take, List.length_drop, List.length_replicate]; omega) | fail) only [cond_t, cond_f, dt, df, w64, wu64, w8, ble_t, ble_f, ieqt, ieqf, inet, inef, Bool.not_true, Bool.not_false, Bool.true_and, Bool.and_true, Bool.false_and, Bool.and_false, Bool.not_not, dTrue, dFalse, Int.toNat_natCast, List.length_append, List.length_cons, List.length_nil, meet_self]
        · simp (disch := first | omega | (simp only [List.length_append, List.length_cons, List.length_nil, List.length_set, List.length_take, List.length_drop, List.length_replicate]; omega) | fail) only [cond_t, cond_f, dt, df, w64, wu64, w8, ble_t, ble_f, ieqt, ieqf, inet, inef, Bool.not_true, Bool.not_false, Bool.true_and, Bool.and_true, Bool.false_and, Bool.and_false, Bool.not_not, dTrue, dFalse, Int.toNat_natCast, List.length_append, List.length_cons, List.length_nil, meet_self]
      · rw [if_iff (or_iff_right hb)]
        unfold outAt at hb
        simp (disch := first | omega | (simp only [List.length_append, List.length_cons, List.length_nil, List.length_set, List.length_take, List.length_drop, List.length_replicate]; omega) | fail) only [cond_t, cond_f, dt, df, w64, wu64, w8, ble_t, ble_f, ieqt, ieqf, inet, inef, Bool.not_true, Bool.not_false, Bool.true_and, Bool.and_true, Bool.false_and, Bool.and_false, Bool.not_not, dTrue, dFalse, Int.toNat_natCast, List.length_append, List.length_cons, List.length_nil, meet_self]
    · rw [if_neg (ex_none h)]
      simp (disch := first | omega | (simp only [List.length_append, List.length_cons, List.length_nil, List.length_set, List.length_take, List.length_drop, List.length_replicate]; omega) | fail) only [cond_t, cond_f, dt, df, w64, wu64, w8, ble_t, ble_f, ieqt, ieqf, inet, inef, Bool.not_true, Bool.not_false, Bool.true_and, Bool.and_true, Bool.false_and, Bool.and_false, Bool.not_not, dTrue, dFalse, Int.toNat_natCast, List.length_append, List.length_cons, List.length_nil, meet_self]
open Classical in
theorem rdashL (s : ByteArray) (hs : s.size ≤ 4) (x : In) (k1 : Int → Option Bool) (k2 : Option Bool) : ∀ (n i : Nat), i ≤ s.size → s.size - i < n → ref08_Check_L2 n s (i : Int) x k1 k2 = if ∃ j, i ≤ j ∧ j < s.size ∧ (dashAt s j ∧ operS x (j : Int) ≠ 0) then k1 2 else k2
  | 0, i, _, h => by omega
  | n + 1, i, h0, h1 => by
    rw [ref08_Check_L2]
    unfold ref08_Check_L2.body
    by_cases h : i < s.size
    · rw [if_iff (ex_step h)]
      have ih := rdashL s hs x k1 k2 n (i + 1) (by omega) (by omega)
      rw [cond_pos (dt (by omega)), cond_pos (by simp; omega), roperand_, w64 (n := (i : Int) + 1) (by omega) (by omega), show (i : Int) + 1 = ((i + 1 : Nat) : Int) by omega, ih, Int.toNat_natCast]
      by_cases hd : dashAt s i
      · by_cases ho : operS x (i : Int) ≠ 0
        · rw [if_pos (Or.inl ⟨hd, ho⟩)]
          unfold dashAt at hd
          simp (disch := first | omega | (simp only [List.length_append, List.length_cons, List.length_nil, List.length_set, List.length_take, List.length_drop, List.length_replicate]; omega) | fail) only [cond_t, cond_f, dt, df, w64, wu64, w8, ble_t, ble_f, ieqt, ieqf, inet, inef, Bool.not_true, Bool.not_false, Bool.true_and, Bool.and_true, Bool.false_and, Bool.and_false, Bool.not_not, dTrue, dFalse, Int.toNat_natCast, List.length_append, List.length_cons, List.length_nil, meet_self]
        · rw [if_iff (or_iff_right (fun g => ho g.2))]
          unfold dashAt at hd
          simp (disch := first | omega | (simp only [List.length_append, List.length_cons, List.length_nil, List.length_set, List.length_take, List.length_drop, List.length_replicate]; omega) | fail) only [cond_t, cond_f, dt, df, w64, wu64, w8, ble_t, ble_f, ieqt, ieqf, inet, inef, Bool.not_true, Bool.not_false, Bool.true_and, Bool.and_true, Bool.false_and, Bool.and_false, Bool.not_not, dTrue, dFalse, Int.toNat_natCast, List.length_append, List.length_cons, List.length_nil, meet_self]
      · rw [if_iff (or_iff_right (fun g => hd g.1))]
        unfold dashAt at hd
        simp (disch := first | omega | (simp only [List.length_append, List.length_cons, List.length_nil, List.length_set, List.length_take, List.length_drop, List.length_replicate]; omega) | fail) only [cond_t, cond_f, dt, df, w64, wu64, w8, ble_t, ble_f, ieqt, ieqf, inet, inef, Bool.not_true, Bool.not_false, Bool.true_and, Bool.and_true, Bool.false_and, Bool.and_false, Bool.not_not, dTrue, dFalse, Int.toNat_natCast, List.length_append, List.length_cons, List.length_nil, meet_self]
    · rw [if_neg (ex_none h)]
      simp (disch := first | omega | (simp only [List.length_append, List.length_cons, List.length_nil, List.length_set, List.length_take, List.length_drop, List.length_replicate]; omega) | fail) only [cond_t, cond_f, dt, df, w64, wu64, w8, ble_t, ble_f, ieqt, ieqf, inet, inef, Bool.not_true, Bool.not_false, Bool.true_and, Bool.and_true, Bool.false_and, Bool.and_false, Bool.not_not, dTrue, dFalse, Int.toNat_natCast, List.length_append, List.length_cons, List.length_nil, meet_self]
open Classical in
theorem dashL (s : ByteArray) (hs : s.size ≤ 4) (x : In) (k1 : Int → Option Bool) (k2 : Option Bool) : ∀ (n i : Nat), i ≤ s.size → s.size - i < n → instr_Check_L2 n s (s.size : Int) (i : Int) x.1 x.2.1 x.2.2.1 x.2.2.2.1 x.2.2.2.2.1 k1 k2 = if ∃ j, i ≤ j ∧ j < s.size ∧ (dashAt s j ∧ operS x (j : Int) ≠ 0) then k1 2 else k2
  | 0, i, _, h => by omega
  | n + 1, i, h0, h1 => by
    rw [instr_Check_L2]
    unfold instr_Check_L2.body
    by_cases h : i < s.size
    · rw [if_iff (ex_step h)]
      have ih := dashL s hs x k1 k2 n (i + 1) (by omega) (by omega)
      have e : List.getD (x.1 :: (x.2.1 :: (x.2.2.1 :: (x.2.2.2.1 :: (x.2.2.2.2.1 :: []))))) (1 + (i : Int)).toNat 0 = operS x (i : Int) := by
        rw [show (1 + (i : Int)).toNat = i + 1 by omega, List.getD_cons_succ]
        exact fields_oper x i (by omega)
      rw [cond_pos (dt (by omega)), cond_pos (by simp; omega), w64 (n := 1 + (i : Int)) (by omega) (by omega), e, w64 (n := (i : Int) + 1) (by omega) (by omega), show (i : Int) + 1 = ((i + 1 : Nat) : Int) by omega, ih, Int.toNat_natCast]
      by_cases hd : dashAt s i
      · by_cases ho : operS x (i : Int) ≠ 0
        · rw [if_pos (Or.inl ⟨hd, ho⟩)]
          unfold dashAt at hd
          simp (disch := first | omega | (simp only [List.length_append, List.length_cons, List.length_nil, List.length_set, List.length_take, List.length_drop, List.length_replicate]; omega) | fail) only [cond_t, cond_f, dt, df, w64, wu64, w8, ble_t, ble_f, ieqt, ieqf, inet, inef, Bool.not_true, Bool.not_false, Bool.true_and, Bool.and_true, Bool.false_and, Bool.and_false, Bool.not_not, dTrue, dFalse, Int.toNat_natCast, List.length_append, List.length_cons, List.length_nil, meet_self]
        · rw [if_iff (or_iff_right (fun g => ho g.2))]
          unfold dashAt at hd
          simp (disch := first | omega | (simp only [List.length_append, List.length_cons, List.length_nil, List.length_set, List.length_take, List.length_drop, List.length_replicate]; omega) | fail) only [cond_t, cond_f, dt, df, w64, wu64, w8, ble_t, ble_f, ieqt, ieqf, inet, inef, Bool.not_true, Bool.not_false, Bool.true_and, Bool.and_true, Bool.false_and, Bool.and_false, Bool.not_not, dTrue, dFalse, Int.toNat_natCast, List.length_append, List.length_cons, List.length_nil, meet_self]
      · rw [if_iff (or_iff_right (fun g => hd g.1))]
        unfold dashAt at hd
        simp (disch := first | omega | (simp only [List.length_append, List.length_cons, List.length_nil, List.length_set, List.length_take, List.length_drop, List.length_replicate]; omega) | fail) only [cond_t, cond_f, dt, df, w64, wu64, w8, ble_t, ble_f, ieqt, ieqf, inet, inef, Bool.not_true, Bool.not_false, Bool.true_and, Bool.and_true, Bool.false_and, Bool.and_false, Bool.not_not, dTrue, dFalse, Int.toNat_natCast, List.length_append, List.length_cons, List.length_nil, meet_self]
    · rw [if_neg (ex_none h)]
      simp (disch := first | omega | (simp only [List.length_append, List.length_cons, List.length_nil, List.length_set, List.length_take, List.length_drop, List.length_replicate]; omega) | fail) only [cond_t, cond_f, dt, df, w64, wu64, w8, ble_t, ble_f, ieqt, ieqf, inet, inef, Bool.not_true, Bool.not_false, Bool.true_and, Bool.and_true, Bool.false_and, Bool.and_false, Bool.not_not, dTrue, dFalse, Int.toNat_natCast, List.length_append, List.length_cons, List.length_nil, meet_self]
theorem noName (s : ByteArray) : (ByteArray.toList s == ByteArray.toList (⟨#[]⟩ : ByteArray)) = decide (s.toList = []) := by
  have : ByteArray.toList (⟨#[]⟩ : ByteArray) = [] := by kernel_rfl
  rw [this]
  by_cases h : s.toList = []
  · rw [h]; rfl
  · rw [df h, beq_eq_false_iff_ne]; exact h
theorem check_ (x : In) (k : Int → Option Bool) : instr_Check x k = k (checkI x) := by
  unfold instr_Check instr_Check.body instr_numbers instr_numbers.body checkI
  have hsz := shapeS_size x.1
  rw [name_]
  dsimp only
  rw [noName]
  by_cases h1 : (nameS x.1).toList = []
  · rw [if_pos h1, dt h1, cond_t]
  · rw [if_neg h1, df h1, cond_f]
    refine (chkL x _ _ ROUNDS 0 (by omega) (by unfold ROUNDS; omega)).trans ?_
    split
    · rfl
    · rw [shape_]
      by_cases h3 : x.2.2.2.2.1 < -2147483648
      · rw [if_pos (.inl h3)]
        simp (disch := first | omega | (simp only [List.length_append, List.length_cons, List.length_nil, List.length_set, List.length_take, List.length_drop, List.length_replicate]; omega) | fail) only [cond_t, cond_f, dt, df, w64, wu64, w8, ble_t, ble_f, ieqt, ieqf, inet, inef, Bool.not_true, Bool.not_false, Bool.true_and, Bool.and_true, Bool.false_and, Bool.and_false, Bool.not_not, dTrue, dFalse, Int.toNat_natCast, List.length_append, List.length_cons, List.length_nil, meet_self]
      · by_cases h4 : x.2.2.2.2.1 > 2147483647
        · rw [if_pos (.inr h4)]
          simp (disch := first | omega | (simp only [List.length_append, List.length_cons, List.length_nil, List.length_set, List.length_take, List.length_drop, List.length_replicate]; omega) | fail) only [cond_t, cond_f, dt, df, w64, wu64, w8, ble_t, ble_f, ieqt, ieqf, inet, inef, Bool.not_true, Bool.not_false, Bool.true_and, Bool.and_true, Bool.false_and, Bool.and_false, Bool.not_not, dTrue, dFalse, Int.toNat_natCast, List.length_append, List.length_cons, List.length_nil, meet_self]
        · rw [if_neg (by omega), cond_pos (not_t h3), cond_neg (df h4)]
          refine (dashL _ hsz x _ _ ROUNDS 0 (by omega) (by unfold ROUNDS; omega)).trans ?_
          split <;> rfl
theorem rcheck_ (x : In) (k : Int → Option Bool) : ref08_Check x k = k (checkI x) := by
  unfold ref08_Check ref08_Check.body checkI
  have hsz := shapeS_size x.1
  rw [rname_]
  rw [noName]
  by_cases h1 : (nameS x.1).toList = []
  · rw [if_pos h1, dt h1, cond_t]
  · rw [if_neg h1, df h1, cond_f]
    refine (rchkL x _ _ ROUNDS 0 (by omega) (by unfold ROUNDS; omega)).trans ?_
    split
    · rfl
    · rw [rshape_]
      by_cases h3 : x.2.2.2.2.1 < -2147483648
      · rw [if_pos (.inl h3)]
        simp (disch := first | omega | (simp only [List.length_append, List.length_cons, List.length_nil, List.length_set, List.length_take, List.length_drop, List.length_replicate]; omega) | fail) only [cond_t, cond_f, dt, df, w64, wu64, w8, ble_t, ble_f, ieqt, ieqf, inet, inef, Bool.not_true, Bool.not_false, Bool.true_and, Bool.and_true, Bool.false_and, Bool.and_false, Bool.not_not, dTrue, dFalse, Int.toNat_natCast, List.length_append, List.length_cons, List.length_nil, meet_self]
      · by_cases h4 : x.2.2.2.2.1 > 2147483647
        · rw [if_pos (.inr h4)]
          simp (disch := first | omega | (simp only [List.length_append, List.length_cons, List.length_nil, List.length_set, List.length_take, List.length_drop, List.length_replicate]; omega) | fail) only [cond_t, cond_f, dt, df, w64, wu64, w8, ble_t, ble_f, ieqt, ieqf, inet, inef, Bool.not_true, Bool.not_false, Bool.true_and, Bool.and_true, Bool.false_and, Bool.and_false, Bool.not_not, dTrue, dFalse, Int.toNat_natCast, List.length_append, List.length_cons, List.length_nil, meet_self]
        · rw [if_neg (by omega), cond_pos (not_t h3), cond_neg (df h4)]
          refine (rdashL _ hsz x _ _ ROUNDS 0 (by omega) (by unfold ROUNDS; omega)).trans ?_
          split <;> rfl
def encI (x : In) : List Int := bts (u64 x.1) 1 ++ bts (u64 x.2.1) 1 ++ bts (u64 x.2.2.1) 1 ++ bts (u64 x.2.2.2.1) 1 ++ bts (u64 x.2.2.2.2.1) 4
theorem encI_len (x : In) : (encI x).length = 8 := by unfold encI; simp only [List.length_append, bts_len]
theorem instr_Put_L0_ (x : In) (ns : List Int) (hl : ns.length ≤ 90000) (k1 k2 : List Int → Option Bool) : instr_Put_L0 ROUNDS ns (x.1, x.2.1, x.2.2.1, x.2.2.2.1, x.2.2.2.2.1, ()) 0 k1 k2 = k1 (ns ++ bts (u64 x.1) 1 ++ bts (u64 x.2.1) 1 ++ bts (u64 x.2.2.1) 1 ++ bts (u64 x.2.2.2.1) 1 ++ bts (u64 x.2.2.2.2.1) 4) := by
  obtain ⟨R, hR⟩ : ∃ R, ROUNDS = R + 1 + 1 + 1 + 1 + 1 := ⟨1180591620717411303419, rfl⟩
  rw [hR]
  have o1 : ∀ {ns : List Int}, ns.length ≤ 100000 → ∀ (n : Int) (k : List Int → Option Bool), octet_Put ns n 1 k = k (ns ++ bts (u64 n) 1) := fun hl n k => octet_Put_ hl n 1 k
  have o4 : ∀ {ns : List Int}, ns.length ≤ 100000 → ∀ (n : Int) (k : List Int → Option Bool), octet_Put ns n 4 k = k (ns ++ bts (u64 n) 4) := fun hl n k => octet_Put_ hl n 4 k
  have g0 : (0 : Int).toNat = 0 := rfl
  have g1 : (1 : Int).toNat = 1 := rfl
  have g2 : (2 : Int).toNat = 2 := rfl
  have g3 : (3 : Int).toNat = 3 := rfl
  have g4 : (4 : Int).toNat = 4 := rfl
  have b1 : ∀ u, (bts u 1).length = 1 := fun u => bts_len u 1
  rw [instr_Put_L0]
  unfold instr_Put_L0.body
  simp (disch := first | omega | (simp only [List.length_append, List.length_cons, List.length_nil, List.length_set, List.length_take, List.length_drop, List.length_replicate]; omega) | fail) only [cond_t, cond_f, dt, df, w64, wu64, w8, ble_t, ble_f, ieqt, ieqf, inet, inef, Bool.not_true, Bool.not_false, Bool.true_and, Bool.and_true, Bool.false_and, Bool.and_false, Bool.not_not, dTrue, dFalse, Int.toNat_natCast, List.length_append, List.length_cons, List.length_nil, meet_self, g0, List.getD_cons_zero]
  rw [o1 (by omega), show (0 : Int) + 1 = 1 from rfl, instr_Put_L0]
  unfold instr_Put_L0.body
  simp (disch := first | omega | (simp only [List.length_append, List.length_cons, List.length_nil, List.length_set, List.length_take, List.length_drop, List.length_replicate]; omega) | fail) only [cond_t, cond_f, dt, df, w64, wu64, w8, ble_t, ble_f, ieqt, ieqf, inet, inef, Bool.not_true, Bool.not_false, Bool.true_and, Bool.and_true, Bool.false_and, Bool.and_false, Bool.not_not, dTrue, dFalse, Int.toNat_natCast, List.length_append, List.length_cons, List.length_nil, meet_self, g1, List.getD_cons_succ, List.getD_cons_zero]
  rw [o1 (by simp only [List.length_append, b1]; omega), show (1 : Int) + 1 = 2 from rfl, instr_Put_L0]
  unfold instr_Put_L0.body
  simp (disch := first | omega | (simp only [List.length_append, List.length_cons, List.length_nil, List.length_set, List.length_take, List.length_drop, List.length_replicate]; omega) | fail) only [cond_t, cond_f, dt, df, w64, wu64, w8, ble_t, ble_f, ieqt, ieqf, inet, inef, Bool.not_true, Bool.not_false, Bool.true_and, Bool.and_true, Bool.false_and, Bool.and_false, Bool.not_not, dTrue, dFalse, Int.toNat_natCast, List.length_append, List.length_cons, List.length_nil, meet_self, g2, List.getD_cons_succ, List.getD_cons_zero]
  rw [o1 (by simp only [List.length_append, b1]; omega), show (2 : Int) + 1 = 3 from rfl, instr_Put_L0]
  unfold instr_Put_L0.body
  simp (disch := first | omega | (simp only [List.length_append, List.length_cons, List.length_nil, List.length_set, List.length_take, List.length_drop, List.length_replicate]; omega) | fail) only [cond_t, cond_f, dt, df, w64, wu64, w8, ble_t, ble_f, ieqt, ieqf, inet, inef, Bool.not_true, Bool.not_false, Bool.true_and, Bool.and_true, Bool.false_and, Bool.and_false, Bool.not_not, dTrue, dFalse, Int.toNat_natCast, List.length_append, List.length_cons, List.length_nil, meet_self, g3, List.getD_cons_succ, List.getD_cons_zero]
  rw [o1 (by simp only [List.length_append, b1]; omega), show (3 : Int) + 1 = 4 from rfl, instr_Put_L0]
  unfold instr_Put_L0.body
  simp (disch := first | omega | (simp only [List.length_append, List.length_cons, List.length_nil, List.length_set, List.length_take, List.length_drop, List.length_replicate]; omega) | fail) only [cond_t, cond_f, dt, df, w64, wu64, w8, ble_t, ble_f, ieqt, ieqf, inet, inef, Bool.not_true, Bool.not_false, Bool.true_and, Bool.and_true, Bool.false_and, Bool.and_false, Bool.not_not, dTrue, dFalse, Int.toNat_natCast, List.length_append, List.length_cons, List.length_nil, meet_self, g4, List.getD_cons_succ, List.getD_cons_zero]
  rw [o4 (by simp only [List.length_append, b1]; omega)]
theorem instr_Putv1_L0_ (x : In) (ns : List Int) (hl : ns.length ≤ 90000) (k1 k2 : List Int → Option Bool) : instr_Putv1_L0 ROUNDS ns (x.1, x.2.1, x.2.2.1, x.2.2.2.1, x.2.2.2.2.1, ()) 0 k1 k2 = k1 (ns ++ bts (u64 x.1) 1 ++ bts (u64 x.2.1) 1 ++ bts (u64 x.2.2.1) 1 ++ bts (u64 x.2.2.2.1) 1 ++ bts (u64 x.2.2.2.2.1) 4) := by
  obtain ⟨R, hR⟩ : ∃ R, ROUNDS = R + 1 + 1 + 1 + 1 + 1 := ⟨1180591620717411303419, rfl⟩
  rw [hR]
  have o1 : ∀ {ns : List Int}, ns.length ≤ 100000 → ∀ (n : Int) (k : List Int → Option Bool), octet_Put ns n 1 k = k (ns ++ bts (u64 n) 1) := fun hl n k => octet_Put_ hl n 1 k
  have o4 : ∀ {ns : List Int}, ns.length ≤ 100000 → ∀ (n : Int) (k : List Int → Option Bool), octet_Put ns n 4 k = k (ns ++ bts (u64 n) 4) := fun hl n k => octet_Put_ hl n 4 k
  have g0 : (0 : Int).toNat = 0 := rfl
  have g1 : (1 : Int).toNat = 1 := rfl
  have g2 : (2 : Int).toNat = 2 := rfl
  have g3 : (3 : Int).toNat = 3 := rfl
  have g4 : (4 : Int).toNat = 4 := rfl
  have b1 : ∀ u, (bts u 1).length = 1 := fun u => bts_len u 1
  rw [instr_Putv1_L0]
  unfold instr_Putv1_L0.body
  simp (disch := first | omega | (simp only [List.length_append, List.length_cons, List.length_nil, List.length_set, List.length_take, List.length_drop, List.length_replicate]; omega) | fail) only [cond_t, cond_f, dt, df, w64, wu64, w8, ble_t, ble_f, ieqt, ieqf, inet, inef, Bool.not_true, Bool.not_false, Bool.true_and, Bool.and_true, Bool.false_and, Bool.and_false, Bool.not_not, dTrue, dFalse, Int.toNat_natCast, List.length_append, List.length_cons, List.length_nil, meet_self, g0, List.getD_cons_zero]
  rw [o1 (by omega), show (0 : Int) + 1 = 1 from rfl, instr_Putv1_L0]
  unfold instr_Putv1_L0.body
  simp (disch := first | omega | (simp only [List.length_append, List.length_cons, List.length_nil, List.length_set, List.length_take, List.length_drop, List.length_replicate]; omega) | fail) only [cond_t, cond_f, dt, df, w64, wu64, w8, ble_t, ble_f, ieqt, ieqf, inet, inef, Bool.not_true, Bool.not_false, Bool.true_and, Bool.and_true, Bool.false_and, Bool.and_false, Bool.not_not, dTrue, dFalse, Int.toNat_natCast, List.length_append, List.length_cons, List.length_nil, meet_self, g1, List.getD_cons_succ, List.getD_cons_zero]
  rw [o1 (by simp only [List.length_append, b1]; omega), show (1 : Int) + 1 = 2 from rfl, instr_Putv1_L0]
  unfold instr_Putv1_L0.body
  simp (disch := first | omega | (simp only [List.length_append, List.length_cons, List.length_nil, List.length_set, List.length_take, List.length_drop, List.length_replicate]; omega) | fail) only [cond_t, cond_f, dt, df, w64, wu64, w8, ble_t, ble_f, ieqt, ieqf, inet, inef, Bool.not_true, Bool.not_false, Bool.true_and, Bool.and_true, Bool.false_and, Bool.and_false, Bool.not_not, dTrue, dFalse, Int.toNat_natCast, List.length_append, List.length_cons, List.length_nil, meet_self, g2, List.getD_cons_succ, List.getD_cons_zero]
  rw [o1 (by simp only [List.length_append, b1]; omega), show (2 : Int) + 1 = 3 from rfl, instr_Putv1_L0]
  unfold instr_Putv1_L0.body
  simp (disch := first | omega | (simp only [List.length_append, List.length_cons, List.length_nil, List.length_set, List.length_take, List.length_drop, List.length_replicate]; omega) | fail) only [cond_t, cond_f, dt, df, w64, wu64, w8, ble_t, ble_f, ieqt, ieqf, inet, inef, Bool.not_true, Bool.not_false, Bool.true_and, Bool.and_true, Bool.false_and, Bool.and_false, Bool.not_not, dTrue, dFalse, Int.toNat_natCast, List.length_append, List.length_cons, List.length_nil, meet_self, g3, List.getD_cons_succ, List.getD_cons_zero]
  rw [o1 (by simp only [List.length_append, b1]; omega), show (3 : Int) + 1 = 4 from rfl, instr_Putv1_L0]
  unfold instr_Putv1_L0.body
  simp (disch := first | omega | (simp only [List.length_append, List.length_cons, List.length_nil, List.length_set, List.length_take, List.length_drop, List.length_replicate]; omega) | fail) only [cond_t, cond_f, dt, df, w64, wu64, w8, ble_t, ble_f, ieqt, ieqf, inet, inef, Bool.not_true, Bool.not_false, Bool.true_and, Bool.and_true, Bool.false_and, Bool.and_false, Bool.not_not, dTrue, dFalse, Int.toNat_natCast, List.length_append, List.length_cons, List.length_nil, meet_self, g4, List.getD_cons_succ, List.getD_cons_zero]
  rw [o4 (by simp only [List.length_append, b1]; omega)]
theorem iput_ (x : In) (ns : List Int) (hl : ns.length ≤ 1000) (k : List Int → Option Bool) : instr_Put ns x k = k (ns ++ encI x) := by
  unfold instr_Put instr_Put.body instr_numbers instr_numbers.body
  dsimp only
  rw [instr_Put_L0_ x ns (by omega)]
  unfold encI
  simp only [List.append_assoc]
theorem iput1_ (x : In) (k : List Int → Option Bool) : instr_Putv1 x k = k (encI x) := by
  unfold instr_Putv1 instr_Putv1.body instr_numbers instr_numbers.body
  dsimp only
  rw [instr_Putv1_L0_ x [] (by simp)]
  unfold encI
  simp only [List.append_assoc, List.nil_append]
theorem bytesOk_of {ns : List Int} {e : Nat} (h : okD (.sl e (.int .u8)) ns) : bytesOk ns := fun x hx => by
  have := okD_int.1 ((okD_sl.1 h).2 x hx)
  simp [Lit.wf, IntKind.min, IntKind.max, IntKind.bits, IntKind.signed, i_] at this
  omega
theorem byte_ {ns : List Int} (h : bytesOk ns) (hl : ns.length ≤ 100000) {a : Int} (ha : 0 ≤ a ∧ a + 1 ≤ (ns.length : Int)) (k : Int → Int → Bool → Bool → List Int → Option Bool) : octet_Reader_Num 1 a true false ns k = k (ns.getD a.toNat 0) (a + 1) true false ns := by
  have hb := getD_ok h (i := a.toNat) (by omega)
  rw [num_ h hl ⟨ha.1, by omega⟩, if_neg (by rintro (g | g | g | g); cases g; omega; omega; omega), show (1 : Int).toNat = 1 from rfl, val_one (by omega), w64 (by omega) (by omega)]
theorem rbyte_ {ns : List Int} (h : bytesOk ns) (hl : ns.length ≤ 100000) {a : Int} (ha : 0 ≤ a ∧ a + 1 ≤ (ns.length : Int)) (k : Rd → Int → Option Bool) : ref02_Num (ns, (a, (false, ()))) 1 false k = k (ns, (a + 1, (false, ()))) (ns.getD a.toNat 0) := by
  have hb := getD_ok h (i := a.toNat) (by omega)
  rw [rnum_ h hl ⟨ha.1, by omega⟩, if_neg (by rintro (g | g | g | g); cases g; omega; omega; omega), if_neg (by simp), show (1 : Int).toNat = 1 from rfl, val_one (by omega), w64 (by omega) (by omega)]
def zIn : In := (0, 0, 0, 0, 0, ())
def rawI (ns : List Int) (a : Int) : In := (ns.getD a.toNat 0, ns.getD (a + 1).toNat 0, ns.getD (a + 1 + 1).toNat 0, ns.getD (a + 1 + 1 + 1).toNat 0, sgn ns (a + 1 + 1 + 1 + 1) 4, ())
open Classical in
noncomputable def getI (ns : List Int) (a : Int) (bad : Bool) : In × Int × Int × Bool := if bad = true ∨ (ns.length : Int) - a < 8 then (zIn, 5, a, true) else if checkI (rawI ns a) ≠ 0 then (zIn, checkI (rawI ns a), a + 1 + 1 + 1 + 1 + 4, false) else (rawI ns a, 0, a + 1 + 1 + 1 + 1 + 4, false)
theorem getI_at {ns : List Int} {a : Int} {bad : Bool} (ha : 0 ≤ a ∧ a ≤ (ns.length : Int)) : 0 ≤ (getI ns a bad).2.2.1 ∧ (getI ns a bad).2.2.1 ≤ (ns.length : Int) := by
  unfold getI
  split
  · exact ha
  · rename_i h
    have : ¬ (ns.length : Int) - a < 8 := fun g => h (.inr g)
    split <;> (dsimp only; omega)
theorem getI_a {ns : List Int} {a : Int} {bad : Bool} (h : bad = true ∨ (ns.length : Int) - a < 8) : getI ns a bad = (zIn, 5, a, true) := by unfold getI; rw [if_pos h]
theorem getI_b {ns : List Int} {a : Int} {bad : Bool} (h : ¬ (bad = true ∨ (ns.length : Int) - a < 8)) (h2 : checkI (rawI ns a) ≠ 0) : getI ns a bad = (zIn, checkI (rawI ns a), a + 1 + 1 + 1 + 1 + 4, false) := by unfold getI; rw [if_neg h, if_pos h2]
theorem getI_c {ns : List Int} {a : Int} {bad : Bool} (h : ¬ (bad = true ∨ (ns.length : Int) - a < 8)) (h2 : ¬ checkI (rawI ns a) ≠ 0) : getI ns a bad = (rawI ns a, 0, a + 1 + 1 + 1 + 1 + 4, false) := by unfold getI; rw [if_neg h, if_neg h2]
theorem left_ {ns : List Int} (hl : ns.length ≤ 100000) {a : Int} (ha : 0 ≤ a ∧ a ≤ (ns.length : Int)) (bad : Bool) (k : Int → Int → Bool → Bool → List Int → Option Bool) : octet_Reader_Left a true bad ns k = k ((ns.length : Int) - a) a true bad ns := by
  unfold octet_Reader_Left octet_Reader_Left.body
  rw [w64 (n := (ns.length : Int) - a) (by omega) (by omega)]
theorem bad_ {ns : List Int} {a : Int} (bad : Bool) (k : Bool → Int → Bool → Bool → List Int → Option Bool) : octet_Reader_Bad a true bad ns k = k bad a true bad ns := by
  unfold octet_Reader_Bad octet_Reader_Bad.body
  simp (disch := first | omega | (simp only [List.length_append, List.length_cons, List.length_nil, List.length_set, List.length_take, List.length_drop, List.length_replicate]; omega) | fail) only [cond_t, cond_f, dt, df, w64, wu64, w8, ble_t, ble_f, ieqt, ieqf, inet, inef, Bool.not_true, Bool.not_false, Bool.true_and, Bool.and_true, Bool.false_and, Bool.and_false, Bool.not_not, dTrue, dFalse, Int.toNat_natCast, List.length_append, List.length_cons, List.length_nil, meet_self]
theorem read_ (w a : Int) (l b : Bool) (ns : List Int) (k : Int → Int → Bool → Bool → List Int → Option Bool) : instr_read w a l b ns k = octet_Reader_Num w a l b ns k := by
  unfold instr_read instr_read.body
  rfl
theorem readv1_ (w a : Int) (l b : Bool) (ns : List Int) (k : Int → Int → Bool → Bool → List Int → Option Bool) : instr_readv1 w a l b ns k = octet_Reader_Signed w a l b ns k := by
  unfold instr_readv1 instr_readv1.body
  rfl
theorem iget_ {ns : List Int} (h : bytesOk ns) (hl : ns.length ≤ 100000) {a : Int} (ha : 0 ≤ a ∧ a ≤ (ns.length : Int)) (bad : Bool) (k : In → Int → Int → Bool → Bool → List Int → Option Bool) : instr_Get a true bad ns k = k (getI ns a bad).1 (getI ns a bad).2.1 (getI ns a bad).2.2.1 true (getI ns a bad).2.2.2 ns := by
  unfold instr_Get instr_Get.body
  rw [left_ hl ha]
  by_cases h1 : (ns.length : Int) - a < 8
  · rw [getI_a (.inr h1), cond_neg (not_f h1), num_ h hl ha, if_pos (by omega)]
    rfl
  · rw [cond_pos (not_t h1), bad_]
    cases bad with
    | true =>
      rw [getI_a (.inl rfl), cond_t, num_ h hl ha, if_pos (.inl rfl)]
      rfl
    | false =>
      have hn : ¬ (false = true ∨ (ns.length : Int) - a < 8) := by rintro (g | g); cases g; exact h1 g
      rw [cond_f, read_, byte_ h hl ⟨by omega, by omega⟩, read_, byte_ h hl ⟨by omega, by omega⟩, read_, byte_ h hl ⟨by omega, by omega⟩, read_, byte_ h hl ⟨by omega, by omega⟩, readv1_, signed_ h hl ⟨by omega, by omega⟩, if_neg (by rintro (g | g | g | g); cases g; omega; omega; omega), check_]
      have e : (ns.getD a.toNat 0, ns.getD (a + 1).toNat 0, ns.getD (a + 1 + 1).toNat 0, ns.getD (a + 1 + 1 + 1).toNat 0, sgn ns (a + 1 + 1 + 1 + 1) 4, ()) = rawI ns a := rfl
      rw [e]
      by_cases h2 : checkI (rawI ns a) = 0
      · rw [getI_c hn (fun g => g h2), cond_neg (inef h2)]
      · rw [getI_b hn h2, cond_pos (inet h2)]
        rfl
theorem riget_ {ns : List Int} (h : bytesOk ns) (hl : ns.length ≤ 100000) {a : Int} (ha : 0 ≤ a ∧ a ≤ (ns.length : Int)) (bad : Bool) (k : Rd → In → Int → Option Bool) : ref08_Get (ns, (a, (bad, ()))) k = k (ns, ((getI ns a bad).2.2.1, ((getI ns a bad).2.2.2, ()))) (getI ns a bad).1 (getI ns a bad).2.1 := by
  unfold ref08_Get ref08_Get.body
  cases bad with
  | true =>
    rw [getI_a (.inl rfl), cond_neg (by rfl)]
    rfl
  | false =>
    rw [cond_pos (by rfl)]
    simp only
    rw [w64 (n := (ns.length : Int) - a) (by omega) (by omega)]
    by_cases h1 : (ns.length : Int) - a < 8
    · rw [getI_a (.inr h1), cond_pos (dt h1)]
      rfl
    · have hn : ¬ (false = true ∨ (ns.length : Int) - a < 8) := by rintro (g | g); cases g; exact h1 g
      rw [cond_neg (df h1), rbyte_ h hl ⟨by omega, by omega⟩]
      simp only
      rw [rbyte_ h hl ⟨by omega, by omega⟩]
      simp only
      rw [rbyte_ h hl ⟨by omega, by omega⟩]
      simp only
      rw [rbyte_ h hl ⟨by omega, by omega⟩]
      simp only
      rw [rnum_ h hl ⟨by omega, by omega⟩, if_neg (by rintro (g | g | g | g); cases g; omega; omega; omega), if_pos rfl, rcheck_]
      have e : (ns.getD a.toNat 0, ns.getD (a + 1).toNat 0, ns.getD (a + 1 + 1).toNat 0, ns.getD (a + 1 + 1 + 1).toNat 0, sgn ns (a + 1 + 1 + 1 + 1) 4, ()) = rawI ns a := rfl
      rw [e]
      by_cases h2 : checkI (rawI ns a) = 0
      · rw [getI_c hn (fun g => g h2), cond_neg (inef h2)]
      · rw [getI_b hn h2, cond_pos (inet h2)]
        rfl
theorem bts_one (u : Int) : bts u 1 = [u % 256] := by simp [bts]
theorem encI_list (x : In) : encI x = [u64 x.1 % 256, u64 x.2.1 % 256, u64 x.2.2.1 % 256, u64 x.2.2.2.1 % 256, u64 x.2.2.2.2.1 / 16777216 % 256, u64 x.2.2.2.2.1 / 65536 % 256, u64 x.2.2.2.2.1 / 256 % 256, u64 x.2.2.2.2.1 % 256] := by
  unfold encI
  simp [bts]
theorem encI_ok (x : In) : bytesOk (encI x) := by
  rw [encI_list]
  intro y hy
  simp only [List.mem_cons, List.not_mem_nil, or_false] at hy
  omega
theorem checkI_in {x : In} (h : checkI x = 0) : (1 ≤ x.1 ∧ x.1 ≤ 28) ∧ (0 ≤ x.2.1 ∧ x.2.1 ≤ 255) ∧ (0 ≤ x.2.2.1 ∧ x.2.2.1 ≤ 255) ∧ (0 ≤ x.2.2.2.1 ∧ x.2.2.2.1 ≤ 255) ∧ -2147483648 ≤ x.2.2.2.2.1 ∧ x.2.2.2.2.1 ≤ 2147483647 := by
  unfold checkI at h
  split at h
  · cases h
  · rename_i h1
    split at h
    · cases h
    · rename_i h2
      split at h
      · cases h
      · rename_i h3
        have hn : 1 ≤ x.1 ∧ x.1 ≤ 28 := by
          refine Classical.byContradiction fun g => h1 ?_
          unfold nameS
          rw [if_neg g]
          kernel_rfl
        have ho : ∀ j, j < 3 → ¬ outAt x j := fun j hj g => h2 ⟨j, Nat.zero_le _, hj, g⟩
        have h0 := ho 0 (by omega)
        have h1 := ho 1 (by omega)
        have h2 := ho 2 (by omega)
        unfold outAt at h0 h1 h2
        have e0 : operS x ((0 : Nat) : Int) = x.2.1 := rfl
        have e1 : operS x ((1 : Nat) : Int) = x.2.2.1 := rfl
        have e2 : operS x ((2 : Nat) : Int) = x.2.2.2.1 := rfl
        rw [e0] at h0
        rw [e1] at h1
        rw [e2] at h2
        exact ⟨hn, ⟨by omega, by omega⟩, ⟨by omega, by omega⟩, ⟨by omega, by omega⟩, by omega, by omega⟩
theorem raw_enc {x : In} (h : checkI x = 0) : rawI (encI x) 0 = x := by
  obtain ⟨h1, h2, h3, h4, h5, h6⟩ := checkI_in h
  unfold rawI sgn
  rw [encI_list]
  obtain ⟨o, a, b, c, n, ⟨⟩⟩ := x
  dsimp only at h1 h2 h3 h4 h5 h6 ⊢
  have f0 : (0 : Int).toNat = 0 := rfl
  have f1 : (0 + 1 : Int).toNat = 1 := rfl
  have f2 : (0 + 1 + 1 : Int).toNat = 2 := rfl
  have f3 : (0 + 1 + 1 + 1 : Int).toNat = 3 := rfl
  have f4 : (0 + 1 + 1 + 1 + 1 : Int).toNat = 4 := rfl
  have f5 : (4 : Int).toNat = 4 := rfl
  rw [f0, f1, f2, f3, f4, f5]
  simp only [List.getD_cons_zero, List.getD_cons_succ, List.drop_succ_cons, List.drop_zero, List.take_succ_cons, List.take_zero, val, List.foldl_cons, List.foldl_nil]
  unfold u64
  have e0 : o % 18446744073709551616 % 256 = o := by omega
  have e1 : a % 18446744073709551616 % 256 = a := by omega
  have e2 : b % 18446744073709551616 % 256 = b := by omega
  have e3 : c % 18446744073709551616 % 256 = c := by omega
  rw [e0, e1, e2, e3]
  have e4 : (if (4 : Int) < 8 ∧ 128 ≤ n % 18446744073709551616 / 16777216 % 256 then (((0 * 256 + n % 18446744073709551616 / 16777216 % 256) * 256 + n % 18446744073709551616 / 65536 % 256) * 256 + n % 18446744073709551616 / 256 % 256) * 256 + n % 18446744073709551616 % 256 - 256 ^ 4 else IntKind.wrap .i64 ((((0 * 256 + n % 18446744073709551616 / 16777216 % 256) * 256 + n % 18446744073709551616 / 65536 % 256) * 256 + n % 18446744073709551616 / 256 % 256) * 256 + n % 18446744073709551616 % 256)) = n := by
    split
    · omega
    · rw [w64 (by omega) (by omega)]
      omega
  rw [e4]
theorem get_enc {x : In} (h : checkI x = 0) : getI (encI x) 0 false = (x, 0, 8, false) := by
  unfold getI
  have hl := encI_len x
  rw [if_neg (by rintro (g | g); cases g; omega), raw_enc h, if_neg (fun g => g h)]
  rfl
theorem with_op (x : In) (i n : Int) : (withS x i n).1 = x.1 := by
  unfold withS
  split
  · rfl
  · split
    · rfl
    · split
      · rfl
      · split <;> rfl
theorem with_other (x : In) (i n k : Int) (h : k ≠ i) : operS (withS x i n) k = operS x k := by
  obtain ⟨o, a, b, c, m, ⟨⟩⟩ := x
  unfold withS operS
  by_cases h0 : i = 0
  · subst h0; simp [h]
  · by_cases h1 : i = 1
    · subst h1; simp [h]
    · by_cases h2 : i = 2
      · subst h2; simp [h]
      · by_cases h3 : i = 3
        · subst h3; simp [h]
        · simp [h0, h1, h2, h3]
theorem with_back (x : In) (i n : Int) : withS (withS x i n) i (operS x i) = x := by
  by_cases h0 : i = 0
  · subst h0; rfl
  · by_cases h1 : i = 1
    · subst h1; rfl
    · by_cases h2 : i = 2
      · subst h2; rfl
      · by_cases h3 : i = 3
        · subst h3; rfl
        · unfold withS
          simp only [if_neg h0, if_neg h1, if_neg h2, if_neg h3]
theorem backL (x : In) (i n : Int) (k1 : Bool → Option Bool) (k2 : Int → In → In → Option Bool) : ∀ (m : Nat) (j : Int), -1 ≤ j → j ≤ 5 → (5 - j).toNat < m → law08_InstrBack_L0 m i j x (withS x i n) k1 k2 = k2 i x (withS x i n)
  | 0, j, _, _, h => by omega
  | m + 1, j, h0, h1, h2 => by
    rw [law08_InstrBack_L0]
    unfold law08_InstrBack_L0.body
    by_cases h : j ≤ 4
    · have ih := backL x i n k1 k2 m (j + 1) (by omega) (by omega) (by omega)
      by_cases hj : j = i
      · simp (disch := first | omega | (simp only [List.length_append, List.length_cons, List.length_nil, List.length_set, List.length_take, List.length_drop, List.length_replicate]; omega) | fail) only [cond_t, cond_f, dt, df, w64, wu64, w8, ble_t, ble_f, ieqt, ieqf, inet, inef, Bool.not_true, Bool.not_false, Bool.true_and, Bool.and_true, Bool.false_and, Bool.and_false, Bool.not_not, dTrue, dFalse, Int.toNat_natCast, List.length_append, List.length_cons, List.length_nil, meet_self]
        exact ih
      · simp (disch := first | omega | (simp only [List.length_append, List.length_cons, List.length_nil, List.length_set, List.length_take, List.length_drop, List.length_replicate]; omega) | fail) only [cond_t, cond_f, dt, df, w64, wu64, w8, ble_t, ble_f, ieqt, ieqf, inet, inef, Bool.not_true, Bool.not_false, Bool.true_and, Bool.and_true, Bool.false_and, Bool.and_false, Bool.not_not, dTrue, dFalse, Int.toNat_natCast, List.length_append, List.length_cons, List.length_nil, meet_self]
        rw [operand_, operand_, with_other x i n j hj]
        simp (disch := first | omega | (simp only [List.length_append, List.length_cons, List.length_nil, List.length_set, List.length_take, List.length_drop, List.length_replicate]; omega) | fail) only [cond_t, cond_f, dt, df, w64, wu64, w8, ble_t, ble_f, ieqt, ieqf, inet, inef, Bool.not_true, Bool.not_false, Bool.true_and, Bool.and_true, Bool.false_and, Bool.and_false, Bool.not_not, dTrue, dFalse, Int.toNat_natCast, List.length_append, List.length_cons, List.length_nil, meet_self]
        exact ih
    · simp (disch := first | omega | (simp only [List.length_append, List.length_cons, List.length_nil, List.length_set, List.length_take, List.length_drop, List.length_replicate]; omega) | fail) only [cond_t, cond_f, dt, df, w64, wu64, w8, ble_t, ble_f, ieqt, ieqf, inet, inef, Bool.not_true, Bool.not_false, Bool.true_and, Bool.and_true, Bool.false_and, Bool.and_false, Bool.not_not, dTrue, dFalse, Int.toNat_natCast, List.length_append, List.length_cons, List.length_nil, meet_self]
theorem holds (x : In) (i n : Int) (h0 : okD (.st [(.int .i64), (.int .i64), (.int .i64), (.int .i64), (.int .i64)]) x) (h1 : okD (.int .i64) i) (h2 : okD (.int .i64) n) : law08_InstrBack x i n (fun y => some y) = some true := by
  unfold law08_InstrBack law08_InstrBack.body law08_known octet_New octet_New.body octet_Reader_Left octet_Reader_Left.body
  have hl := encI_len x
  rw [iput1_]
  simp (disch := first | omega | (simp only [List.length_append, List.length_cons, List.length_nil, List.length_set, List.length_take, List.length_drop, List.length_replicate]; omega) | fail) only [cond_t, cond_f, dt, df, w64, wu64, w8, ble_t, ble_f, ieqt, ieqf, inet, inef, Bool.not_true, Bool.not_false, Bool.true_and, Bool.and_true, Bool.false_and, Bool.and_false, Bool.not_not, dTrue, dFalse, Int.toNat_natCast, List.length_append, List.length_cons, List.length_nil, meet_self, List.nil_append]
  rw [iget_ (encI_ok x) (by omega) ⟨by omega, by omega⟩, check_]
  by_cases hc : checkI x = 0
  · rw [get_enc hc, cond_pos (ieqt hc)]
    have e8 : IntKind.wrap .i64 (((encI x).length : Int) - 8) = 0 := by rw [w64 (by omega) (by omega)]; omega
    dsimp only
    rw [e8]
    simp (disch := first | omega | (simp only [List.length_append, List.length_cons, List.length_nil, List.length_set, List.length_take, List.length_drop, List.length_replicate]; omega) | fail) only [cond_t, cond_f, dt, df, w64, wu64, w8, ble_t, ble_f, ieqt, ieqf, inet, inef, Bool.not_true, Bool.not_false, Bool.true_and, Bool.and_true, Bool.false_and, Bool.and_false, Bool.not_not, dTrue, dFalse, Int.toNat_natCast, List.length_append, List.length_cons, List.length_nil, meet_self, beq_self_eq_true]
    rw [with_, cond_neg (inef (with_op x i n)), backL x i n _ _ ROUNDS (-1) (by omega) (by omega) (by unfold ROUNDS; omega), operand_, with_, with_back]
    simp (disch := first | omega | (simp only [List.length_append, List.length_cons, List.length_nil, List.length_set, List.length_take, List.length_drop, List.length_replicate]; omega) | fail) only [cond_t, cond_f, dt, df, w64, wu64, w8, ble_t, ble_f, ieqt, ieqf, inet, inef, Bool.not_true, Bool.not_false, Bool.true_and, Bool.and_true, Bool.false_and, Bool.and_false, Bool.not_not, dTrue, dFalse, Int.toNat_natCast, List.length_append, List.length_cons, List.length_nil, meet_self, beq_self_eq_true]
  · rw [cond_neg (ieqf hc)]
    rw [with_, cond_neg (inef (with_op x i n)), backL x i n _ _ ROUNDS (-1) (by omega) (by omega) (by unfold ROUNDS; omega), operand_, with_, with_back]
    simp (disch := first | omega | (simp only [List.length_append, List.length_cons, List.length_nil, List.length_set, List.length_take, List.length_drop, List.length_replicate]; omega) | fail) only [cond_t, cond_f, dt, df, w64, wu64, w8, ble_t, ble_f, ieqt, ieqf, inet, inef, Bool.not_true, Bool.not_false, Bool.true_and, Bool.and_true, Bool.false_and, Bool.and_false, Bool.not_not, dTrue, dFalse, Int.toNat_natCast, List.length_append, List.length_cons, List.length_nil, meet_self, beq_self_eq_true]

end Go.Proofs.Ytfpefjpbkgejdaa.instrBack
