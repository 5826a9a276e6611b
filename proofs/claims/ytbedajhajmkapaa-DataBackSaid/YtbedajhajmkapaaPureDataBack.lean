/- What the plain functions answer: the law, without program or memory. -/
import Derived.Test.YtbedajhajmkapaaMG
import Derived.IntWalk
import Derived.Laws.Strings
namespace Go.Proofs.Ytbedajhajmkapaa.dataBack
open Go.AX Go.Proofs.Ytbedajhajmkapaa.g
set_option linter.unusedVariables false
set_option linter.unusedSimpArgs false
theorem cond_ite (b : Bool) (x y : Option Bool) : cond_ b x y = if b = true then x else y := by cases b <;> rfl
@[simp] theorem cond_t (x y : Option Bool) : cond_ true x y = x := (cond_ite true x y).trans (if_pos rfl)
@[simp] theorem cond_f (x y : Option Bool) : cond_ false x y = y := (cond_ite false x y).trans (if_neg (by decide))
theorem cond_pos {b : Bool} {x y : Option Bool} (h : b = true) : cond_ b x y = x := by rw [h]; rfl
theorem cond_neg {b : Bool} {x y : Option Bool} (h : b = false) : cond_ b x y = y := by rw [h]; rfl
@[simp] theorem meet_self (x : Option Bool) : meet x x = x := by
  cases x with
  | none => rfl
  | some a => simp [meet]
theorem w64 {n : Int} (h1 : -9223372036854775808 ≤ n) (h2 : n ≤ 9223372036854775807) : IntKind.wrap .i64 n = n := IntWalk.i64_in n ⟨h1, h2⟩
theorem w8 {n : Int} (h1 : 0 ≤ n) (h2 : n ≤ 255) : IntKind.wrap .u8 n = n := IntWalk.u8_in n ⟨h1, h2⟩
theorem wu64 {n : Int} (h1 : 0 ≤ n) (h2 : n ≤ 18446744073709551615) : IntKind.wrap .u64 n = n := IntWalk.u64_in n ⟨h1, h2⟩
theorem ble_t {a b : Nat} (h : a ≤ b) : Nat.ble a b = true := by rw [Nat.ble_eq]; exact h
theorem ok64 {n : Int} (h : okD (.int .i64) n) : -9223372036854775808 ≤ n ∧ n ≤ 9223372036854775807 := by
  have := okD_int.1 h
  simpa [Lit.wf, IntKind.min, IntKind.max, IntKind.bits, IntKind.signed, i_] using this
theorem not_t {p : Prop} [Decidable p] (h : ¬p) : (!decide p) = true := by simp [h]
theorem not_f {p : Prop} [Decidable p] (h : p) : (!decide p) = false := by simp [h]
theorem cond_congr {b c : Bool} (h : b = c) (x y : Option Bool) : cond_ b x y = cond_ c x y := by rw [h]
attribute [local congr] cond_congr
theorem dt {p : Prop} [Decidable p] (h : p) : decide p = true := decide_eq_true h
theorem df {p : Prop} [Decidable p] (h : ¬p) : decide p = false := decide_eq_false h
theorem ieqt {a b : Int} (h : a = b) : (a == b) = true := by simp [h]
theorem ieqf {a b : Int} (h : a ≠ b) : (a == b) = false := by simp [h]
theorem inet {a b : Int} (h : a ≠ b) : (a != b) = true := by simp [h]
theorem inef {a b : Int} (h : a = b) : (a != b) = false := by simp [h]
theorem ble_f {a b : Nat} (h : b < a) : Nat.ble a b = false := by
  cases hb : Nat.ble a b with
  | false => rfl
  | true => rw [Nat.ble_eq] at hb; omega
theorem rounds_ : ∃ R, ROUNDS = R ∧ 1000000000 ≤ R := ⟨ROUNDS, rfl, by unfold ROUNDS; omega⟩
theorem dTrue {i : Decidable True} : decide True = true := dt trivial
theorem dFalse {i : Decidable False} : decide False = false := df fun h => h
theorem if_iff {α : Type} {p q : Prop} [Decidable p] [Decidable q] (h : p ↔ q) (a b : α) : (if p then a else b) = (if q then a else b) := by
  by_cases hp : p
  · rw [if_pos hp, if_pos (h.1 hp)]
  · rw [if_neg hp, if_neg (fun g => hp (h.2 g))]
def u64 (n : Int) : Int := n % 18446744073709551616
theorem wu64_eq (n : Int) : IntKind.wrap .u64 n = u64 n := by
  simp [IntKind.wrap, IntKind.bits, IntKind.signed, u64]
/-- the last bytes of a number -/
def bts (u : Int) : Nat → List Int
  | 0 => []
  | m + 1 => (u / 256 ^ m) % 256 :: bts u m
theorem bts_len (u : Int) : ∀ m, (bts u m).length = m
  | 0 => rfl
  | m + 1 => by simp [bts, bts_len u m]
theorem w8_eq (n : Int) : IntKind.wrap .u8 n = n % 256 := by
  simp [IntKind.wrap, IntKind.bits, IntKind.signed]
theorem u64_lo (n : Int) : 0 ≤ u64 n ∧ u64 n < 18446744073709551616 := by unfold u64; omega
theorem innerL (u : Int) (ns : List Int) (K : Int → Int → Int → List Int → Option Bool) : ∀ (n : Nat) (i k x : Int), 0 ≤ k → k ≤ i → i ≤ 8 → 0 ≤ x → x < 18446744073709551616 → (i - k).toNat < n → ref02_Put_L0_L2 n u i x k ns K = K u i (x / 256 ^ (i - k).toNat) ns
  | 0, i, k, x, _, _, _, _, _, h => by omega
  | n + 1, i, k, x, h0, h1, h2, h3, h4, h5 => by
    rw [ref02_Put_L0_L2]
    unfold ref02_Put_L0_L2.body
    by_cases h : k < i
    · have e : IntKind.wrap .u64 (Int.tdiv x 256) = x / 256 := by
        rw [Int.tdiv_eq_ediv_of_nonneg h3, wu64 (by omega) (by omega)]
      rw [cond_pos (by simpa using h), e, w64 (by omega) (by omega), innerL u ns K n i (k + 1) (x / 256) (by omega) (by omega) h2 (by omega) (by omega) (by omega)]
      congr 1
      rw [show (i - k).toNat = (i - (k + 1)).toNat + 1 by omega, Int.pow_succ, Int.mul_comm, Int.ediv_ediv_of_nonneg (by omega)]
    · rw [cond_neg (by simpa using h)]
      rw [show (i - k).toNat = 0 by omega]
      simp
theorem outerL (u : Int) (hu : 0 ≤ u ∧ u < 18446744073709551616) (K : List Int → Option Bool) : ∀ (n : Nat) (m : Nat) (acc : List Int), m ≤ 8 → acc.length ≤ 4194304 - m → m < n → ref02_Put_L0 n u ((m : Int) - 1) acc K = K (acc ++ bts u m)
  | 0, m, acc, _, _, h => by omega
  | n + 1, 0, acc, _, _, h => by
    rw [ref02_Put_L0]
    unfold ref02_Put_L0.body
    rw [cond_neg (by simp)]
    simp [bts]
  | n + 1, m + 1, acc, h1, h2, h3 => by
    rw [ref02_Put_L0]
    unfold ref02_Put_L0.body
    rw [cond_pos (decide_eq_true (by omega)), innerL u acc _ ROUNDS _ 0 u (by omega) (by omega) (by omega) hu.1 hu.2 (by unfold ROUNDS; omega)]
    rw [show ((((m + 1 : Nat) : Int) - 1) - 0).toNat = m by omega]
    have hb : 0 ≤ u / 256 ^ m := Int.ediv_nonneg hu.1 (Int.pow_nonneg (by omega))
    have e : IntKind.wrap .u8 (Int.tmod (u / 256 ^ m) 256) = (u / 256 ^ m) % 256 := by
      rw [Int.tmod_eq_emod_of_nonneg hb, w8_eq]
      omega
    rw [e, ble_t (by simp; omega), cond_t, w64 (by omega) (by omega), show ((m + 1 : Nat) : Int) - 1 - 1 = (m : Int) - 1 by omega, outerL u hu K n m _ (by omega) (by simp; omega) (by omega)]
    rw [List.append_assoc]
    first | rfl | (simp [bts])
theorem rput_ {ns : List Int} (hl : ns.length ≤ 100000) (n w : Int) (k : List Int → Option Bool) : ref02_Put ns n w k = k (if w < 1 ∨ w > 8 then ns else ns ++ bts (u64 n) w.toNat) := by
  unfold ref02_Put ref02_Put.body
  rw [ble_t (by omega), cond_t]
  by_cases h1 : w < 1
  · rw [if_pos (.inl h1), cond_neg (not_f h1)]
  · by_cases h2 : w > 8
    · rw [if_pos (.inr h2), cond_pos (not_t h1), cond_pos (decide_eq_true h2)]
    · rw [if_neg (by omega), cond_pos (not_t h1), cond_neg (decide_eq_false h2), w64 (by omega) (by omega), wu64_eq]
      have := outerL (u64 n) (u64_lo n) (fun ns29 => k ns29) ROUNDS w.toNat ns (by omega) (by omega) (by unfold ROUNDS; omega)
      rw [show ((w.toNat : Nat) : Int) - 1 = w - 1 by omega] at this
      exact this
theorem fdiv_byte (n : Int) (m : Nat) (c : Int) (hc : c = 256 ^ m) (hm : m ≤ 7) : IntKind.wrap .u8 (Int.fdiv n c) = (u64 n / 256 ^ m) % 256 := by
  subst hc
  rw [w8_eq]
  have h0 : (0 : Int) ≤ 256 ^ m := Int.pow_nonneg (by omega)
  rw [Int.fdiv_eq_ediv_of_nonneg _ h0]
  unfold u64
  rcases m with _ | _ | _ | _ | _ | _ | _ | _ | m
  all_goals first | omega | (simp only [Nat.zero_add, Nat.reduceAdd, Int.reducePow] ; omega)
theorem putCells (ns : List Int) (n w : Int) (h1 : 1 ≤ w) (h2 : w ≤ 8) : List.take (Int.toNat (8 - (8 - w))) (List.drop (Int.toNat (8 - w)) ((IntKind.wrap .u8 (Int.fdiv n 72057594037927936)) :: (IntKind.wrap .u8 (Int.fdiv n 281474976710656)) :: (IntKind.wrap .u8 (Int.fdiv n 1099511627776)) :: (IntKind.wrap .u8 (Int.fdiv n 4294967296)) :: (IntKind.wrap .u8 (Int.fdiv n 16777216)) :: (IntKind.wrap .u8 (Int.fdiv n 65536)) :: (IntKind.wrap .u8 (Int.fdiv n 256)) :: (IntKind.wrap .u8 (Int.fdiv n 1)) :: [])) = bts (u64 n) w.toNat := by
  rw [fdiv_byte n 7 72057594037927936 rfl (by omega), fdiv_byte n 6 281474976710656 rfl (by omega), fdiv_byte n 5 1099511627776 rfl (by omega), fdiv_byte n 4 4294967296 rfl (by omega), fdiv_byte n 3 16777216 rfl (by omega), fdiv_byte n 2 65536 rfl (by omega), fdiv_byte n 1 256 rfl (by omega), fdiv_byte n 0 1 rfl (by omega)]
  have : w = 1 ∨ w = 2 ∨ w = 3 ∨ w = 4 ∨ w = 5 ∨ w = 6 ∨ w = 7 ∨ w = 8 := by omega
  rcases this with rfl | rfl | rfl | rfl | rfl | rfl | rfl | rfl <;> rfl
theorem w64_cong {a b : Int} (h : a % 18446744073709551616 = b % 18446744073709551616) : IntKind.wrap .i64 a = IntKind.wrap .i64 b := by
  rw [IntKind.wrap_i64, IntKind.wrap_i64]
  omega
theorem w64_mod (a : Int) : IntKind.wrap .i64 a % 18446744073709551616 = a % 18446744073709551616 := by
  rw [IntKind.wrap_i64]
  omega
theorem ofInt_nat (a : Int) : (BitVec.ofInt 64 a).toNat = (a % 18446744073709551616).toNat := by
  rw [BitVec.toNat_ofInt]
  rfl
theorem or_byte (U b : Int) (hb : 0 ≤ b ∧ b < 256) : IntKind.wrap .i64 (((BitVec.toNat ((BitVec.ofInt 64 (IntKind.wrap .i64 (IntKind.wrap .i64 U * 256))) ||| (BitVec.ofInt 64 (IntKind.wrap .i64 b)))) : Nat) : Int) = IntKind.wrap .i64 (U * 256 + b) := by
  apply w64_cong
  rw [BitVec.toNat_or, ofInt_nat, ofInt_nat, w64_mod, w64_mod]
  have e1 : (IntKind.wrap .i64 U * 256) % 18446744073709551616 = (U % 72057594037927936) * 256 := by
    have := w64_mod U
    omega
  have e2 : b % 18446744073709551616 = b := by omega
  rw [e1, e2]
  have e3 : ((U % 72057594037927936) * 256).toNat = (U % 72057594037927936).toNat <<< 8 := by
    rw [Nat.shiftLeft_eq]
    omega
  rw [e3, ← Nat.shiftLeft_add_eq_or_of_lt (by omega : b.toNat < 2 ^ 8), Nat.shiftLeft_eq]
  omega
/-- bytes as a number -/
def val (bs : List Int) : Int := bs.foldl (fun u b => u * 256 + b) 0
theorem val_snoc (bs : List Int) (b : Int) : val (bs ++ [b]) = val bs * 256 + b := by simp [val]
def bytesOk (ns : List Int) : Prop := ∀ x ∈ ns, 0 ≤ x ∧ x < 256
theorem cut_snoc {ns : List Int} {m i : Nat} (h : m + i < ns.length) : (ns.drop m).take (i + 1) = (ns.drop m).take i ++ [ns.getD (m + i) 0] := by
  rw [List.take_add_one]
  congr 1
  rw [List.getElem?_drop, List.getElem?_eq_getElem h, List.getD_eq_getElem?_getD, List.getElem?_eq_getElem h]
  rfl
theorem getD_ok {ns : List Int} (h : bytesOk ns) {i : Nat} (hi : i < ns.length) : 0 ≤ ns.getD i 0 ∧ ns.getD i 0 < 256 := by
  rw [List.getD_eq_getElem?_getD, List.getElem?_eq_getElem hi]
  exact h _ (List.getElem_mem _)
theorem val_lt {ns : List Int} (h : bytesOk ns) : ∀ (m i : Nat), m + i ≤ ns.length → 0 ≤ val ((ns.drop m).take i) ∧ val ((ns.drop m).take i) < 256 ^ i
  | m, 0, _ => by simp [val]
  | m, i + 1, hi => by
    have := val_lt h m i (by omega)
    have hb := getD_ok h (i := m + i) (by omega)
    rw [cut_snoc (by omega), val_snoc, Int.pow_succ]
    omega
theorem numL {ns : List Int} (h : bytesOk ns) (hl : ns.length ≤ 100000) {m l : Nat} (hm : m + l ≤ ns.length) (a : Int) (b c : Bool) (k : Int → Nat → Nat → Int → Bool → Bool → List Int → Option Bool) : ∀ (n i : Nat), i ≤ l → l - i < n →
    octet_number_L0v1 n (IntKind.wrap .i64 (val ((ns.drop m).take i))) m l m l ((l : Nat) : Int) ((i : Nat) : Int) a b c ns k = k (IntKind.wrap .i64 (val ((ns.drop m).take l))) m l a b c ns
  | 0, i, _, h2 => by omega
  | n + 1, i, h1, h2 => by
    rw [octet_number_L0v1]
    unfold octet_number_L0v1.body
    by_cases hi : i < l
    · have hb := getD_ok h (i := m + i) (by omega)
      rw [cond_pos (decide_eq_true (by omega)), cond_pos (by simp; omega), Int.toNat_natCast, or_byte _ _ hb, ← val_snoc, ← cut_snoc (by omega), w64 (n := (i : Int) + 1) (by omega) (by omega), show ((i : Nat) : Int) + 1 = ((i + 1 : Nat) : Int) by omega]
      exact numL h hl hm a b c k n (i + 1) (by omega) (by omega)
    · rw [cond_neg (decide_eq_false (by omega)), show i = l by omega]
theorem take_ {ns : List Int} (hl : ns.length ≤ 100000) {a : Int} (ha : 0 ≤ a ∧ a ≤ (ns.length : Int)) (w : Int) (bad : Bool) (k1 : Int → Bool → Bool → List Int → List Int → Option Bool) (k2 : Nat → Nat → Int → Bool → Bool → List Int → Option Bool) :
    octet_Reader_take w a true bad ns k1 k2 = if bad = true ∨ w < 0 ∨ w > (ns.length : Int) - a then k1 a true true ns [] else k2 a.toNat w.toNat (a + w) true bad ns := by
  unfold octet_Reader_take octet_Reader_take.body octet_Reader_Bad octet_Reader_Bad.body octet_Reader_Left octet_Reader_Left.body octet_Reader_spoil octet_Reader_spoil.body
  dsimp only
  rw [cond_pos (by rfl)]
  cases bad with
  | true => simp
  | false =>
    rw [cond_pos (by rfl)]
    by_cases h1 : w < 0
    · rw [cond_neg (not_f h1), if_pos (.inr (.inl h1))]
    · rw [cond_pos (not_t h1), w64 (n := (ns.length : Int) - a) (by omega) (by omega)]
      by_cases h2 : w > (ns.length : Int) - a
      · rw [cond_pos (decide_eq_true h2), if_pos (.inr (.inr h2))]
      · rw [cond_neg (decide_eq_false h2), if_neg (by simp; omega), w64 (n := a + w) (by omega) (by omega), w64 (n := a + w - w) (by omega) (by omega), cond_pos (by simp; omega)]
        rw [show a + w - w = a by omega, show a + w - a = w by omega]
theorem numNil (a : Int) (b c : Bool) (ns : List Int) (k : Int → Int → Bool → Bool → List Int → List Int → Option Bool) : octet_number_L0 ROUNDS 0 (([] : List Int).length : Int) 0 a b c ns [] k = k 0 a b c ns [] := by
  have e : octet_number_L0 ROUNDS = octet_number_L0 (1180591620717411303423 + 1) := rfl
  rw [e, octet_number_L0]
  simp [octet_number_L0.body]
theorem number_ {ns : List Int} (h : bytesOk ns) (hl : ns.length ≤ 100000) {a : Int} (ha : 0 ≤ a ∧ a ≤ (ns.length : Int)) (w : Int) (bad : Bool) (k1 : Int → Int → Bool → Bool → List Int → List Int → Option Bool) (k2 : Int → Nat → Nat → Int → Bool → Bool → List Int → Option Bool) :
    octet_number w a true bad ns k1 k2 = if bad = true ∨ w < 1 ∨ w > 8 ∨ w > (ns.length : Int) - a then k1 0 a true true ns [] else k2 (IntKind.wrap .i64 (val ((ns.drop a.toNat).take w.toNat))) a.toNat w.toNat (a + w) true bad ns := by
  unfold octet_number octet_number.body
  by_cases h1 : w < 1
  · rw [cond_neg (not_f h1), take_ hl ha, if_pos (by omega), if_pos (by omega), numNil]
  · rw [cond_pos (not_t h1)]
    by_cases h2 : w > 8
    · rw [cond_pos (decide_eq_true h2), take_ hl ha, if_pos (by omega), if_pos (by omega), numNil]
    · rw [cond_neg (decide_eq_false h2), take_ hl ha]
      by_cases h3 : bad = true ∨ w < 0 ∨ w > (ns.length : Int) - a
      · rw [if_pos h3, if_pos (by rcases h3 with h | h | h; exact .inl h; omega; exact .inr (.inr (.inr h))), numNil]
      · have h3' : ¬ (bad = true) := fun e => h3 (.inl e)
        rw [if_neg h3, if_neg (by rintro (h | h | h | h); exact h3' h; omega; omega; exact h3 (.inr (.inr h)))]
        have := numL h hl (m := a.toNat) (l := w.toNat) (by omega) (a + w) true bad (fun n168 m169 m170 n171 b172 b173 ns174 => k2 n168 m169 m170 n171 b172 b173 ns174) ROUNDS 0 (by omega) (by unfold ROUNDS; omega)
        rw [List.take_zero] at this
        exact this
theorem val_from : ∀ (bs : List Int) (u : Int), bs.foldl (fun u b => u * 256 + b) u = u * 256 ^ bs.length + val bs
  | [], u => by simp [val]
  | b :: r, u => by
    have e : val (b :: r) = b * 256 ^ r.length + val r := by
      show (b :: r).foldl (fun u b => u * 256 + b) 0 = _
      rw [List.foldl_cons, val_from r]
      simp
    rw [List.foldl_cons, val_from r, e, List.length_cons, Int.pow_succ, Int.add_mul, Int.mul_assoc, Int.mul_comm 256]
    omega
theorem val_first {ns : List Int} {m l : Nat} (h : m + (l + 1) ≤ ns.length) : val ((ns.drop m).take (l + 1)) = ns.getD m 0 * 256 ^ l + val ((ns.drop (m + 1)).take l) := by
  have hm : m < ns.length := by omega
  rw [List.drop_eq_getElem_cons hm, List.take_succ_cons, val, List.foldl_cons, val_from, List.length_take, List.length_drop, Nat.min_eq_left (by omega), List.getD_eq_getElem?_getD, List.getElem?_eq_getElem hm]
  simp
theorem pow8 : ∀ i : Nat, i ≤ 8 → (256 : Int) ^ i ≤ 18446744073709551616 := by
  intro i hi
  rcases i with _ | _ | _ | _ | _ | _ | _ | _ | _ | i
  all_goals first | omega | decide
abbrev Rd := List Int × Int × Bool × Unit
theorem rnumL {ns : List Int} (h : bytesOk ns) (hl : ns.length ≤ 100000) {a : Int} {w : Int} (ha : 0 ≤ a) (hw : w ≤ 8) (hm : a + w ≤ (ns.length : Int)) (s : Bool) (bad : Bool) (x : Int) (y : Bool) (k : Int → Bool → Int → Rd → Int → Bool → Option Bool) : ∀ (n i : Nat), (i : Int) ≤ w → (w - i).toNat < n →
    ref02_Num_L0 n w s (val ((ns.drop a.toNat).take i)) (i : Int) (ns, (a, (bad, ()))) x y k = k w s (val ((ns.drop a.toNat).take w.toNat)) (ns, (a, (bad, ()))) x y
  | 0, i, _, h2 => by omega
  | n + 1, i, h1, h2 => by
    rw [ref02_Num_L0]
    unfold ref02_Num_L0.body
    by_cases hi : (i : Int) < w
    · have hb := getD_ok h (i := a.toNat + i) (by omega)
      have hv := val_lt h a.toNat i (by omega)
      have hv2 := val_lt h a.toNat (i + 1) (by omega)
      have hp := pow8 (i + 1) (by omega)
      have e : (IntKind.wrap .i64 (a + (i : Int))) = a + (i : Int) := w64 (by omega) (by omega)
      have e2 : (a + (i : Int)).toNat = a.toNat + i := by omega
      rw [cut_snoc (by omega), val_snoc] at hv2
      dsimp only
      rw [cond_pos (decide_eq_true hi), e, e2, cond_pos (by simp; omega), wu64 (n := val ((ns.drop a.toNat).take i) * 256) (by omega) (by omega), wu64 (n := ns.getD (a.toNat + i) 0) (by omega) (by omega), wu64 (by omega) (by omega), ← val_snoc, ← cut_snoc (by omega), w64 (n := (i : Int) + 1) (by omega) (by omega), show ((i : Nat) : Int) + 1 = ((i + 1 : Nat) : Int) by omega]
      exact rnumL h hl ha hw hm s bad x y k n (i + 1) (by omega) (by omega)
    · rw [cond_neg (decide_eq_false hi), show w.toNat = i by omega]
theorem rtopL {w u : Int} (hw : w ≤ 7) (t : Rd) (x : Int) (y : Bool) (k : Int → Int → Int → Rd → Int → Bool → Option Bool) : ∀ (n i : Nat), (i : Int) ≤ w → (w - i).toNat < n → ref02_Num_L2 n w u (256 ^ i) (i : Int) t x y k = k w u (256 ^ w.toNat) t x y
  | 0, i, _, h2 => by omega
  | n + 1, i, h1, h2 => by
    rw [ref02_Num_L2]
    unfold ref02_Num_L2.body
    by_cases hi : (i : Int) < w
    · have hp : (256 : Int) ^ (i + 1) ≤ 72057594037927936 := by
        have : i ≤ 6 := by omega
        rcases i with _ | _ | _ | _ | _ | _ | _ | i
        all_goals first | omega | decide
      have hp0 : (0 : Int) ≤ 256 ^ (i + 1) := Int.pow_nonneg (by omega)
      rw [cond_pos (decide_eq_true hi), ← Int.pow_succ, wu64 hp0 (by omega), w64 (n := (i : Int) + 1) (by omega) (by omega), show ((i : Nat) : Int) + 1 = ((i + 1 : Nat) : Int) by omega]
      exact rtopL hw t x y k n (i + 1) (by omega) (by omega)
    · rw [cond_neg (decide_eq_false hi), show w.toNat = i by omega]
def sgn (ns : List Int) (a w : Int) : Int := if w < 8 ∧ 128 ≤ ns.getD a.toNat 0 then val ((ns.drop a.toNat).take w.toNat) - 256 ^ w.toNat else IntKind.wrap .i64 (val ((ns.drop a.toNat).take w.toNat))
theorem rnum_ {ns : List Int} (h : bytesOk ns) (hl : ns.length ≤ 100000) {a : Int} (ha : 0 ≤ a ∧ a ≤ (ns.length : Int)) (w : Int) (s bad : Bool) (k : Rd → Int → Option Bool) :
    ref02_Num (ns, (a, (bad, ()))) w s k = if bad = true ∨ w < 1 ∨ w > 8 ∨ w > (ns.length : Int) - a then k (ns, (a, (true, ()))) 0 else k (ns, (a + w, (bad, ()))) (if s = true then sgn ns a w else IntKind.wrap .i64 (val ((ns.drop a.toNat).take w.toNat))) := by
  unfold ref02_Num ref02_Num.body
  dsimp only
  cases bad with
  | true => simp
  | false =>
    rw [cond_pos (by rfl)]
    by_cases h1 : w < 1
    · rw [cond_neg (not_f h1), if_pos (.inr (.inl h1))]
    · rw [cond_pos (not_t h1)]
      by_cases h2 : w > 8
      · rw [cond_neg (not_f h2), if_pos (.inr (.inr (.inl h2)))]
      · rw [cond_pos (not_t h2), w64 (n := (ns.length : Int) - a) (by omega) (by omega)]
        by_cases h3 : w > (ns.length : Int) - a
        · rw [cond_pos (decide_eq_true h3), if_pos (.inr (.inr (.inr h3)))]
        · rw [cond_neg (decide_eq_false h3), if_neg (by simp; omega)]
          have hL := fun k => rnumL h hl (a := a) (w := w) ha.1 (by omega) (by omega) s false 0 false k ROUNDS 0 (by omega) (by unfold ROUNDS; omega)
          rw [List.take_zero] at hL
          have hL' := fun k => hL k
          refine (hL' _).trans ?_
          dsimp only
          rw [w64 (n := a + w) (by omega) (by omega)]
          cases s with
          | false => rfl
          | true =>
            rw [cond_pos rfl, if_pos rfl]
            unfold sgn
            by_cases h4 : w < 8
            · rw [cond_pos (decide_eq_true h4), cond_pos (by simp; omega)]
              by_cases h5 : 128 ≤ ns.getD a.toNat 0
              · rw [cond_pos (decide_eq_true h5), if_pos ⟨h4, h5⟩]
                have hv := val_lt h a.toNat w.toNat (by omega)
                have hp : (256 : Int) ^ w.toNat ≤ 72057594037927936 := by
                  have : w.toNat ≤ 7 := by omega
                  generalize w.toNat = j at this
                  rcases j with _ | _ | _ | _ | _ | _ | _ | _ | j
                  all_goals first | omega | decide
                have hT := rtopL (w := w) (u := val ((ns.drop a.toNat).take w.toNat)) (by omega) (ns, (a, (false, ()))) 0 false (fun n324 n325 n326 t327 n328 b329 => k (t327.1, (IntKind.wrap .i64 (t327.2.1 + n324), (t327.2.2.1, ()))) (IntKind.wrap .i64 (IntKind.wrap .u64 (n325 - n326)))) ROUNDS 0 (by omega) (by unfold ROUNDS; omega)
                refine hT.trans ?_
                dsimp only
                rw [w64 (n := a + w) (by omega) (by omega), wu64_eq]
                unfold u64
                congr 1
                rw [IntKind.wrap_i64]
                omega
              · rw [cond_neg (decide_eq_false h5), if_neg (fun h => h5 h.2)]
            · rw [cond_neg (decide_eq_false h4), if_neg (fun h => h4 h.1)]
theorem shl_ (V b0 R : Int) : ∀ w : Nat, 1 ≤ w → w ≤ 8 → V = b0 * 256 ^ (w - 1) + R → 0 ≤ R → R < 256 ^ (w - 1) → 0 ≤ b0 → b0 < 256 →
    Int.fdiv (IntKind.wrap .i64 (IntKind.wrap .i64 V * 2 ^ (8 * (8 - w)))) (2 ^ (8 * (8 - w))) = if w < 8 ∧ 128 ≤ b0 then V - 256 ^ w else IntKind.wrap .i64 V := by
  intro w h1 h2 hV hR0 hR1 hb0 hb1
  rw [Int.fdiv_eq_ediv_of_nonneg _ (Int.pow_nonneg (by omega)), IntKind.wrap_i64, IntKind.wrap_i64]
  rcases w with _ | _ | _ | _ | _ | _ | _ | _ | _ | w
  · omega
  all_goals first | omega | skip
  all_goals
    simp only [Nat.reduceAdd, Nat.reduceSub, Nat.reduceMul, Int.reducePow, Nat.zero_add, Int.pow_zero, Int.mul_one] at *
    split <;> omega
theorem num_ {ns : List Int} (h : bytesOk ns) (hl : ns.length ≤ 100000) {a : Int} (ha : 0 ≤ a ∧ a ≤ (ns.length : Int)) (w : Int) (bad : Bool) (k : Int → Int → Bool → Bool → List Int → Option Bool) :
    octet_Reader_Num w a true bad ns k = if bad = true ∨ w < 1 ∨ w > 8 ∨ w > (ns.length : Int) - a then k 0 a true true ns else k (IntKind.wrap .i64 (val ((ns.drop a.toNat).take w.toNat))) (a + w) true bad ns := by
  unfold octet_Reader_Num octet_Reader_Num.body
  rw [number_ h hl ha]
theorem octet_Put_ {ns : List Int} (hl : ns.length ≤ 100000) (n w : Int) (k : List Int → Option Bool) : octet_Put ns n w k = k (if w < 1 ∨ w > 8 then ns else ns ++ bts (u64 n) w.toNat) := by
  unfold octet_Put octet_Put.body
  rw [ble_t (by omega), cond_t]
  by_cases h1 : w < 1
  · rw [if_pos (.inl h1), cond_neg (not_f h1)]; rfl
  · by_cases h2 : w > 8
    · rw [if_pos (.inr h2), cond_pos (not_t h1), cond_pos (decide_eq_true h2)]; rfl
    · rw [if_neg (by omega), cond_pos (not_t h1), cond_neg (decide_eq_false h2), w64 (n := 8 - w) (by omega) (by omega), cond_pos (by simp; omega), putCells ns n w (by omega) (by omega), ble_t (by rw [bts_len]; simp; omega), cond_t]
      rfl
theorem octet_Putv1_ {ns : List Int} (hl : ns.length ≤ 100000) (n w : Int) (k : List Int → Option Bool) : octet_Putv1 ns n w k = k (if w < 1 ∨ w > 8 then ns else ns ++ bts (u64 n) w.toNat) := by
  unfold octet_Putv1 octet_Putv1.body
  rw [ble_t (by omega), cond_t]
  by_cases h1 : w < 1
  · rw [if_pos (.inl h1), cond_neg (not_f h1)]; rfl
  · by_cases h2 : w > 8
    · rw [if_pos (.inr h2), cond_pos (not_t h1), cond_pos (decide_eq_true h2)]; rfl
    · rw [if_neg (by omega), cond_pos (not_t h1), cond_neg (decide_eq_false h2), w64 (n := 8 - w) (by omega) (by omega), cond_pos (by simp; omega), putCells ns n w (by omega) (by omega), ble_t (by rw [bts_len]; simp; omega), cond_t]
      rfl
theorem seqt {a b : ByteArray} (h : a = b) : (a.toList == b.toList) = true := by rw [h]; exact beq_self_eq_true _
theorem seqf {a b : ByteArray} (h : a ≠ b) : (a.toList == b.toList) = false := by
  rw [ByteArray.toList_eq, ByteArray.toList_eq, beq_eq_false_iff_ne]
  intro he
  apply h
  cases a with | mk a =>
  cases b with | mk b =>
  exact congrArg ByteArray.mk (Array.toList_inj.1 he)
theorem bytes_inj : ∀ {a b : List Int}, (∀ x ∈ a, 0 ≤ x ∧ x < 256) → (∀ x ∈ b, 0 ≤ x ∧ x < 256) → a.map (fun n => UInt8.ofNat n.toNat) = b.map (fun n => UInt8.ofNat n.toNat) → a = b
  | [], [], _, _, _ => rfl
  | [], _ :: _, _, _, h => by simp at h
  | _ :: _, [], _, _, h => by simp at h
  | x :: a, y :: b, ha, hb, h => by
    simp only [List.map_cons, List.cons.injEq] at h
    obtain ⟨h1, h2⟩ := h
    have hx := ha x List.mem_cons_self
    have hy := hb y List.mem_cons_self
    have e : x = y := by
      have := congrArg UInt8.toNat h1
      simp only [UInt8.toNat_ofNat'] at this
      omega
    rw [e, bytes_inj (fun z hz => ha z (List.mem_cons_of_mem _ hz)) (fun z hz => hb z (List.mem_cons_of_mem _ hz)) h2]
theorem strOf_inj {a b : List Int} (ha : ∀ x ∈ a, 0 ≤ x ∧ x < 256) (hb : ∀ x ∈ b, 0 ≤ x ∧ x < 256) (h : strOf a = strOf b) : a = b := by
  refine bytes_inj ha hb ?_
  have h := congrArg (fun s : ByteArray => s.data.toList) h
  simpa [strOf] using h
/-- a reader's step: the number, where it is then, whether it is bad -/
def rd (ns : List Int) (w : Int) (a : Int) (bad : Bool) : Int × Int × Bool := if bad = true ∨ w < 1 ∨ w > 8 ∨ w > (ns.length : Int) - a then (0, a, true) else (IntKind.wrap .i64 (val ((ns.drop a.toNat).take w.toNat)), a + w, bad)
theorem rd_at {ns : List Int} {w a : Int} {bad : Bool} (ha : 0 ≤ a ∧ a ≤ (ns.length : Int)) : 0 ≤ (rd ns w a bad).2.1 ∧ (rd ns w a bad).2.1 ≤ (ns.length : Int) := by
  unfold rd
  split
  · exact ha
  · rename_i h
    have h2 : ¬ (w < 1) := fun g => h (.inr (.inl g))
    have h3 : ¬ (w > (ns.length : Int) - a) := fun g => h (.inr (.inr (.inr g)))
    dsimp only
    omega
theorem rd_lt {ns : List Int} (hb : bytesOk ns) {w a : Int} {bad : Bool} (ha : 0 ≤ a ∧ a ≤ (ns.length : Int)) (hw : w ≤ 7) : 0 ≤ (rd ns w a bad).1 ∧ (rd ns w a bad).1 < 256 ^ w.toNat := by
  unfold rd
  split
  · exact ⟨Int.le_refl _, Int.pow_pos (by omega)⟩
  · rename_i h
    have h2 : ¬ (w < 1) := fun g => h (.inr (.inl g))
    have h3 : ¬ (w > (ns.length : Int) - a) := fun g => h (.inr (.inr (.inr g)))
    have hv := val_lt hb a.toNat w.toNat (by omega)
    have hp : (256 : Int) ^ w.toNat ≤ 72057594037927936 := by
      have : w.toNat ≤ 7 := by omega
      generalize w.toNat = j at this
      rcases j with _ | _ | _ | _ | _ | _ | _ | _ | j
      all_goals first | omega | decide
    dsimp only
    rw [w64 (by omega) (by omega)]
    exact hv
theorem rd_num {ns : List Int} (h : bytesOk ns) (hl : ns.length ≤ 100000) {a : Int} (ha : 0 ≤ a ∧ a ≤ (ns.length : Int)) (w : Int) (bad : Bool) (k : Int → Int → Bool → Bool → List Int → Option Bool) :
    octet_Reader_Num w a true bad ns k = k (rd ns w a bad).1 (rd ns w a bad).2.1 true (rd ns w a bad).2.2 ns := by
  rw [num_ h hl ha]
  unfold rd
  split <;> rfl
theorem rd_rnum {ns : List Int} (h : bytesOk ns) (hl : ns.length ≤ 100000) {a : Int} (ha : 0 ≤ a ∧ a ≤ (ns.length : Int)) (w : Int) (bad : Bool) (k : Rd → Int → Option Bool) :
    ref02_Num (ns, (a, (bad, ()))) w false k = k (ns, ((rd ns w a bad).2.1, ((rd ns w a bad).2.2, ()))) (rd ns w a bad).1 := by
  rw [rnum_ h hl ha]
  unfold rd
  split <;> rfl
abbrev Rl := Int × Int × Bool × Unit
abbrev Dt := Int × List Int × List Rl × Unit
abbrev Sy := ByteArray × Bool × Int × Int × Int × Unit
theorem few_ (d : Dt) (k : Bool → Option Bool) : ref15_Few d k = k (decide (d.2.1.length ≤ 100 ∧ d.2.2.1.length ≤ 100)) := by
  unfold ref15_Few ref15_Few.body
  by_cases h1 : d.2.1.length ≤ 100
  · by_cases h2 : d.2.2.1.length ≤ 100
    · simp (disch := first | omega | (simp only [List.length_append, List.length_cons, List.length_nil, List.length_set, List.length_take, List.length_drop, List.length_replicate]; omega) | fail) only [cond_t, cond_f, dt, df, w64, wu64, w8, ble_t, ble_f, ieqt, ieqf, inet, inef, Bool.not_true, Bool.not_false, Bool.true_and, Bool.and_true, Bool.false_and, Bool.and_false, Bool.not_not, dTrue, dFalse, Int.toNat_natCast, List.length_append, List.length_cons, List.length_nil, meet_self]
    · simp (disch := first | omega | (simp only [List.length_append, List.length_cons, List.length_nil, List.length_set, List.length_take, List.length_drop, List.length_replicate]; omega) | fail) only [cond_t, cond_f, dt, df, w64, wu64, w8, ble_t, ble_f, ieqt, ieqf, inet, inef, Bool.not_true, Bool.not_false, Bool.true_and, Bool.and_true, Bool.false_and, Bool.and_false, Bool.not_not, dTrue, dFalse, Int.toNat_natCast, List.length_append, List.length_cons, List.length_nil, meet_self]
  · simp (disch := first | omega | (simp only [List.length_append, List.length_cons, List.length_nil, List.length_set, List.length_take, List.length_drop, List.length_replicate]; omega) | fail) only [cond_t, cond_f, dt, df, w64, wu64, w8, ble_t, ble_f, ieqt, ieqf, inet, inef, Bool.not_true, Bool.not_false, Bool.true_and, Bool.and_true, Bool.false_and, Bool.and_false, Bool.not_not, dTrue, dFalse, Int.toNat_natCast, List.length_append, List.length_cons, List.length_nil, meet_self]
def texts : List ByteArray := [(⟨#[110]⟩ : ByteArray), (⟨#[102, 48]⟩ : ByteArray), (⟨#[102, 48, 114]⟩ : ByteArray), (⟨#[102, 49]⟩ : ByteArray), (⟨#[102, 49, 114]⟩ : ByteArray), (⟨#[102, 50]⟩ : ByteArray), (⟨#[102, 50, 114]⟩ : ByteArray), (⟨#[102, 51]⟩ : ByteArray), (⟨#[102, 51, 114]⟩ : ByteArray)]
def textS (n : Int) : ByteArray := if 0 ≤ n ∧ n ≤ 8 then texts.getD n.toNat ⟨#[]⟩ else ⟨#[]⟩
theorem text_ (n : Int) (k : ByteArray → Option Bool) : sig_Text n k = k (textS n) := by
  unfold sig_Text sig_Text.body sig_texts sig_texts.body textS
  show cond_ (!decide (n < 0)) (cond_ (decide (n ≥ (texts.length : Int))) (k ⟨#[]⟩) (cond_ (decide (0 ≤ n) && decide (n < (texts.length : Int))) (k (texts.getD n.toNat ⟨#[]⟩)) none)) (k ⟨#[]⟩) = _
  have hl : texts.length = 9 := rfl
  by_cases h1 : n < 0
  · rw [if_neg (by omega)]
    simp (disch := first | omega | (simp only [List.length_append, List.length_cons, List.length_nil, List.length_set, List.length_take, List.length_drop, List.length_replicate]; omega) | fail) only [cond_t, cond_f, dt, df, w64, wu64, w8, ble_t, ble_f, ieqt, ieqf, inet, inef, Bool.not_true, Bool.not_false, Bool.true_and, Bool.and_true, Bool.false_and, Bool.and_false, Bool.not_not, dTrue, dFalse, Int.toNat_natCast, List.length_append, List.length_cons, List.length_nil, meet_self]
  · by_cases h2 : n > 8
    · rw [if_neg (by omega)]
      simp (disch := first | omega | (simp only [List.length_append, List.length_cons, List.length_nil, List.length_set, List.length_take, List.length_drop, List.length_replicate]; omega) | fail) only [cond_t, cond_f, dt, df, w64, wu64, w8, ble_t, ble_f, ieqt, ieqf, inet, inef, Bool.not_true, Bool.not_false, Bool.true_and, Bool.and_true, Bool.false_and, Bool.and_false, Bool.not_not, dTrue, dFalse, Int.toNat_natCast, List.length_append, List.length_cons, List.length_nil, meet_self]
    · rw [if_pos (by omega)]
      simp (disch := first | omega | (simp only [List.length_append, List.length_cons, List.length_nil, List.length_set, List.length_take, List.length_drop, List.length_replicate]; omega) | fail) only [cond_t, cond_f, dt, df, w64, wu64, w8, ble_t, ble_f, ieqt, ieqf, inet, inef, Bool.not_true, Bool.not_false, Bool.true_and, Bool.and_true, Bool.false_and, Bool.and_false, Bool.not_not, dTrue, dFalse, Int.toNat_natCast, List.length_append, List.length_cons, List.length_nil, meet_self]
theorem rtext_ {n : Int} (hn : -9223372036854775808 ≤ n ∧ n ≤ 9223372036854775807) (k : ByteArray → Option Bool) : ref05_Text n k = k (textS n) := by
  by_cases h1 : 0 ≤ n ∧ n ≤ 8
  · have : n = 0 ∨ n = 1 ∨ n = 2 ∨ n = 3 ∨ n = 4 ∨ n = 5 ∨ n = 6 ∨ n = 7 ∨ n = 8 := by omega
    rcases this with rfl | rfl | rfl | rfl | rfl | rfl | rfl | rfl | rfl <;> (show _ = _ ; kernel_rfl)
  · have e : textS n = ⟨#[]⟩ := by unfold textS; rw [if_neg h1]
    rw [e]
    unfold ref05_Text ref05_Text.body ref05_Class ref05_Class.body ref05_Is ref05_Is.body
    have hm : ¬ (0 ≤ IntKind.wrap .i64 (n - 1) ∧ IntKind.wrap .i64 (n - 1) ≤ 7) := by rw [IntKind.wrap_i64]; omega
    rw [cond_neg (ieqf (by omega))]
    by_cases h2 : 0 ≤ IntKind.wrap .i64 (n - 1)
    · simp (disch := first | omega | (simp only [List.length_append, List.length_cons, List.length_nil, List.length_set, List.length_take, List.length_drop, List.length_replicate]; omega) | fail) only [cond_t, cond_f, dt, df, w64, wu64, w8, ble_t, ble_f, ieqt, ieqf, inet, inef, Bool.not_true, Bool.not_false, Bool.true_and, Bool.and_true, Bool.false_and, Bool.and_false, Bool.not_not, dTrue, dFalse, Int.toNat_natCast, List.length_append, List.length_cons, List.length_nil, meet_self]
    · simp (disch := first | omega | (simp only [List.length_append, List.length_cons, List.length_nil, List.length_set, List.length_take, List.length_drop, List.length_replicate]; omega) | fail) only [cond_t, cond_f, dt, df, w64, wu64, w8, ble_t, ble_f, ieqt, ieqf, inet, inef, Bool.not_true, Bool.not_false, Bool.true_and, Bool.and_true, Bool.false_and, Bool.and_false, Bool.not_not, dTrue, dFalse, Int.toNat_natCast, List.length_append, List.length_cons, List.length_nil, meet_self]
theorem noName (s : ByteArray) : (ByteArray.toList s == ByteArray.toList (⟨#[]⟩ : ByteArray)) = decide (s.toList = []) := by
  have : ByteArray.toList (⟨#[]⟩ : ByteArray) = [] := by kernel_rfl
  rw [this]
  by_cases h : s.toList = []
  · rw [h]; rfl
  · rw [df h, beq_eq_false_iff_ne]; exact h
theorem textS_in {n : Int} (h : ¬ (textS n).toList = []) : 0 ≤ n ∧ n ≤ 8 := by
  refine Classical.byContradiction fun g => h ?_
  unfold textS
  rw [if_neg g]
  kernel_rfl
theorem ex_step {P : Nat → Prop} {i m : Nat} (h : i < m) : (∃ j, i ≤ j ∧ j < m ∧ P j) ↔ P i ∨ ∃ j, i + 1 ≤ j ∧ j < m ∧ P j := by
  constructor
  · rintro ⟨j, h1, h2, h3⟩
    by_cases e : i = j
    · subst e; exact .inl h3
    · exact .inr ⟨j, by omega, h2, h3⟩
  · rintro (h1 | ⟨j, h1, h2, h3⟩)
    · exact ⟨i, Nat.le_refl _, h, h1⟩
    · exact ⟨j, by omega, h2, h3⟩
theorem ex_none {P : Nat → Prop} {i m : Nat} (h : ¬ i < m) : ¬ ∃ j, i ≤ j ∧ j < m ∧ P j := by
  rintro ⟨j, h1, h2, _⟩
  omega
/-- words that are not 0 -/
def some0 (ws : List Int) (i : Nat) : Prop := ∃ j, i ≤ j ∧ j < ws.length ∧ ws.getD j 0 ≠ 0
open Classical in
theorem idxL (ws : List Int) (hl : ws.length ≤ 1000) (k1 : Int → Option Bool) (k2 : Option Bool) (r : Option Bool) (H : ∀ i : Nat, k1 (i : Int) = r) : ∀ (n i : Nat), i ≤ ws.length → ws.length - i < n → slices_IndexFunc_int64_int64_L0 n ws (ws.length : Int) (i : Int) k1 k2 = if some0 ws i then r else k2
  | 0, i, _, h => by omega
  | n + 1, i, h0, h1 => by
    rw [slices_IndexFunc_int64_int64_L0]
    unfold slices_IndexFunc_int64_int64_L0.body some0 data_Checkfn1 data_Checkfn1.body
    by_cases h : i < ws.length
    · rw [if_iff (ex_step h)]
      have ih := idxL ws hl k1 k2 r H n (i + 1) (by omega) (by omega)
      unfold some0 at ih
      by_cases c : ws.getD i 0 = 0
      · rw [if_iff (or_iff_right (fun g => g c))]
        simp (disch := first | omega | (simp only [List.length_append, List.length_cons, List.length_nil, List.length_set, List.length_take, List.length_drop, List.length_replicate]; omega) | fail) only [cond_t, cond_f, dt, df, w64, wu64, w8, ble_t, ble_f, ieqt, ieqf, inet, inef, Bool.not_true, Bool.not_false, Bool.true_and, Bool.and_true, Bool.false_and, Bool.and_false, Bool.not_not, dTrue, dFalse, Int.toNat_natCast, List.length_append, List.length_cons, List.length_nil, meet_self]
        exact ih
      · rw [if_pos (Or.inl c)]
        simp (disch := first | omega | (simp only [List.length_append, List.length_cons, List.length_nil, List.length_set, List.length_take, List.length_drop, List.length_replicate]; omega) | fail) only [cond_t, cond_f, dt, df, w64, wu64, w8, ble_t, ble_f, ieqt, ieqf, inet, inef, Bool.not_true, Bool.not_false, Bool.true_and, Bool.and_true, Bool.false_and, Bool.and_false, Bool.not_not, dTrue, dFalse, Int.toNat_natCast, List.length_append, List.length_cons, List.length_nil, meet_self, H]
    · rw [if_neg (ex_none h)]
      simp (disch := first | omega | (simp only [List.length_append, List.length_cons, List.length_nil, List.length_set, List.length_take, List.length_drop, List.length_replicate]; omega) | fail) only [cond_t, cond_f, dt, df, w64, wu64, w8, ble_t, ble_f, ieqt, ieqf, inet, inef, Bool.not_true, Bool.not_false, Bool.true_and, Bool.and_true, Bool.false_and, Bool.and_false, Bool.not_not, dTrue, dFalse, Int.toNat_natCast, List.length_append, List.length_cons, List.length_nil, meet_self]
open Classical in
theorem contains_ (ws : List Int) (hl : ws.length ≤ 1000) (k : Bool → Option Bool) : slices_ContainsFunc_int64_int64 ws k = k (decide (some0 ws 0)) := by
  unfold slices_ContainsFunc_int64_int64 slices_ContainsFunc_int64_int64.body slices_IndexFunc_int64_int64 slices_IndexFunc_int64_int64.body
  have := idxL ws hl (fun n18 => k (decide (n18 ≥ 0))) (k (decide ((-1 : Int) ≥ 0))) (k true) (fun i => by rw [dt (by omega)]) ROUNDS 0 (by omega) (by unfold ROUNDS; omega)
  refine this.trans ?_
  by_cases c : some0 ws 0
  · rw [if_pos c, dt c]
  · rw [if_neg c, df c]
    rfl
open Classical in
theorem rwordsL (kd : Int) (ws : List Int) (rs : List Rl) (l : List Sy) (hl : ws.length ≤ 1000) (k1 : Int → Option Bool) (k2 : List Sy → Dt → Option Bool) : ∀ (n i : Nat), i ≤ ws.length → ws.length - i < n → ref15_Check_L0 n l (i : Int) (kd, ws, rs, ()) k1 k2 = if kd ≠ 0 ∧ some0 ws i then k1 2 else k2 l (kd, ws, rs, ())
  | 0, i, _, h => by omega
  | n + 1, i, h0, h1 => by
    rw [ref15_Check_L0]
    unfold ref15_Check_L0.body
    by_cases h : i < ws.length
    · have ih := rwordsL kd ws rs l hl k1 k2 n (i + 1) (by omega) (by omega)
      have hs : some0 ws i ↔ ws.getD i 0 ≠ 0 ∨ some0 ws (i + 1) := ex_step h
      by_cases ck : kd = 0
      · rw [if_neg (fun g => g.1 ck)] at ih ⊢
        simp (disch := first | omega | (simp only [List.length_append, List.length_cons, List.length_nil, List.length_set, List.length_take, List.length_drop, List.length_replicate]; omega) | fail) only [cond_t, cond_f, dt, df, w64, wu64, w8, ble_t, ble_f, ieqt, ieqf, inet, inef, Bool.not_true, Bool.not_false, Bool.true_and, Bool.and_true, Bool.false_and, Bool.and_false, Bool.not_not, dTrue, dFalse, Int.toNat_natCast, List.length_append, List.length_cons, List.length_nil, meet_self]
        exact ih
      · by_cases c : ws.getD i 0 = 0
        · rw [if_iff (and_congr_right_iff.2 fun _ => hs.trans (or_iff_right (fun g => g c)))]
          simp (disch := first | omega | (simp only [List.length_append, List.length_cons, List.length_nil, List.length_set, List.length_take, List.length_drop, List.length_replicate]; omega) | fail) only [cond_t, cond_f, dt, df, w64, wu64, w8, ble_t, ble_f, ieqt, ieqf, inet, inef, Bool.not_true, Bool.not_false, Bool.true_and, Bool.and_true, Bool.false_and, Bool.and_false, Bool.not_not, dTrue, dFalse, Int.toNat_natCast, List.length_append, List.length_cons, List.length_nil, meet_self]
          exact ih
        · rw [if_pos ⟨ck, hs.2 (.inl c)⟩]
          simp (disch := first | omega | (simp only [List.length_append, List.length_cons, List.length_nil, List.length_set, List.length_take, List.length_drop, List.length_replicate]; omega) | fail) only [cond_t, cond_f, dt, df, w64, wu64, w8, ble_t, ble_f, ieqt, ieqf, inet, inef, Bool.not_true, Bool.not_false, Bool.true_and, Bool.and_true, Bool.false_and, Bool.and_false, Bool.not_not, dTrue, dFalse, Int.toNat_natCast, List.length_append, List.length_cons, List.length_nil, meet_self]
    · rw [if_neg (fun g => ex_none h g.2)]
      simp (disch := first | omega | (simp only [List.length_append, List.length_cons, List.length_nil, List.length_set, List.length_take, List.length_drop, List.length_replicate]; omega) | fail) only [cond_t, cond_f, dt, df, w64, wu64, w8, ble_t, ble_f, ieqt, ieqf, inet, inef, Bool.not_true, Bool.not_false, Bool.true_and, Bool.and_true, Bool.false_and, Bool.and_false, Bool.not_not, dTrue, dFalse, Int.toNat_natCast, List.length_append, List.length_cons, List.length_nil, meet_self]
/-- what is wrong with a reference -/
def rel1 (kd : Int) (ws : List Int) (rs : List Rl) (l : List Sy) (i : Nat) : Int :=
  if kd = 0 ∨ (rs.getD i ((0 : Int), ((0 : Int), (false, ())))).1 < 0 ∨ (rs.getD i ((0 : Int), ((0 : Int), (false, ())))).1 ≥ (ws.length : Int) ∨ (0 < i ∧ (rs.getD i ((0 : Int), ((0 : Int), (false, ())))).1 ≤ (rs.getD (i - 1) ((0 : Int), ((0 : Int), (false, ())))).1) ∨ (rs.getD i ((0 : Int), ((0 : Int), (false, ())))).2.1 < 0 ∨ (rs.getD i ((0 : Int), ((0 : Int), (false, ())))).2.1 ≥ (l.length : Int) then 11
  else if (l.getD (rs.getD i ((0 : Int), ((0 : Int), (false, ())))).2.1.toNat ((⟨#[]⟩ : ByteArray), (false, ((0 : Int), ((0 : Int), ((0 : Int), ())))))).2.2.1 ≠ 1 ∨ (l.getD (rs.getD i ((0 : Int), ((0 : Int), (false, ())))).2.1.toNat ((⟨#[]⟩ : ByteArray), (false, ((0 : Int), ((0 : Int), ((0 : Int), ())))))).2.2.2.1 ≠ kd - 1 then 8 else 0
def relS (kd : Int) (ws : List Int) (rs : List Rl) (l : List Sy) : Nat → Nat → Int
  | 0, _ => 0
  | m + 1, i => if rel1 kd ws rs l i = 0 then relS kd ws rs l m (i + 1) else rel1 kd ws rs l i
theorem r1_ (i : Int) (x : Rl) (d : Dt) (k : Bool → Dt → Option Bool) : data_rulesfn1 i x d k = k (d.1 == 0) d := by
  unfold data_rulesfn1 data_rulesfn1.body
  rfl
theorem r2_ (i : Int) (x : Rl) (d : Dt) (k : Bool → Dt → Option Bool) : data_rulesfn2 i x d k = k (decide (x.1 < 0 ∨ x.1 ≥ (d.2.1.length : Int))) d := by
  unfold data_rulesfn2 data_rulesfn2.body
  by_cases c : x.1 < 0
  · simp (disch := first | omega | (simp only [List.length_append, List.length_cons, List.length_nil, List.length_set, List.length_take, List.length_drop, List.length_replicate]; omega) | fail) only [cond_t, cond_f, dt, df, w64, wu64, w8, ble_t, ble_f, ieqt, ieqf, inet, inef, Bool.not_true, Bool.not_false, Bool.true_and, Bool.and_true, Bool.false_and, Bool.and_false, Bool.not_not, dTrue, dFalse, Int.toNat_natCast, List.length_append, List.length_cons, List.length_nil, meet_self]
  · by_cases c2 : x.1 ≥ (d.2.1.length : Int)
    · simp (disch := first | omega | (simp only [List.length_append, List.length_cons, List.length_nil, List.length_set, List.length_take, List.length_drop, List.length_replicate]; omega) | fail) only [cond_t, cond_f, dt, df, w64, wu64, w8, ble_t, ble_f, ieqt, ieqf, inet, inef, Bool.not_true, Bool.not_false, Bool.true_and, Bool.and_true, Bool.false_and, Bool.and_false, Bool.not_not, dTrue, dFalse, Int.toNat_natCast, List.length_append, List.length_cons, List.length_nil, meet_self]
    · simp (disch := first | omega | (simp only [List.length_append, List.length_cons, List.length_nil, List.length_set, List.length_take, List.length_drop, List.length_replicate]; omega) | fail) only [cond_t, cond_f, dt, df, w64, wu64, w8, ble_t, ble_f, ieqt, ieqf, inet, inef, Bool.not_true, Bool.not_false, Bool.true_and, Bool.and_true, Bool.false_and, Bool.and_false, Bool.not_not, dTrue, dFalse, Int.toNat_natCast, List.length_append, List.length_cons, List.length_nil, meet_self]
theorem r3_ (i : Nat) (x : Rl) (d : Dt) (hi : i < d.2.2.1.length) (hl : d.2.2.1.length ≤ 1000) (k : Bool → Dt → Option Bool) : data_rulesfn3 (i : Int) x d k = k (decide (0 < i ∧ x.1 ≤ (d.2.2.1.getD (i - 1) ((0 : Int), ((0 : Int), (false, ())))).1)) d := by
  unfold data_rulesfn3 data_rulesfn3.body
  have e : ((i : Int) - 1).toNat = i - 1 := by omega
  by_cases c : 0 < i
  · by_cases c2 : x.1 ≤ (d.2.2.1.getD (i - 1) ((0 : Int), ((0 : Int), (false, ())))).1
    · simp (disch := first | omega | (simp only [List.length_append, List.length_cons, List.length_nil, List.length_set, List.length_take, List.length_drop, List.length_replicate]; omega) | fail) only [cond_t, cond_f, dt, df, w64, wu64, w8, ble_t, ble_f, ieqt, ieqf, inet, inef, Bool.not_true, Bool.not_false, Bool.true_and, Bool.and_true, Bool.false_and, Bool.and_false, Bool.not_not, dTrue, dFalse, Int.toNat_natCast, List.length_append, List.length_cons, List.length_nil, meet_self, e]
    · simp (disch := first | omega | (simp only [List.length_append, List.length_cons, List.length_nil, List.length_set, List.length_take, List.length_drop, List.length_replicate]; omega) | fail) only [cond_t, cond_f, dt, df, w64, wu64, w8, ble_t, ble_f, ieqt, ieqf, inet, inef, Bool.not_true, Bool.not_false, Bool.true_and, Bool.and_true, Bool.false_and, Bool.and_false, Bool.not_not, dTrue, dFalse, Int.toNat_natCast, List.length_append, List.length_cons, List.length_nil, meet_self, e]
  · simp (disch := first | omega | (simp only [List.length_append, List.length_cons, List.length_nil, List.length_set, List.length_take, List.length_drop, List.length_replicate]; omega) | fail) only [cond_t, cond_f, dt, df, w64, wu64, w8, ble_t, ble_f, ieqt, ieqf, inet, inef, Bool.not_true, Bool.not_false, Bool.true_and, Bool.and_true, Bool.false_and, Bool.and_false, Bool.not_not, dTrue, dFalse, Int.toNat_natCast, List.length_append, List.length_cons, List.length_nil, meet_self]
theorem r4_ (i : Int) (x : Rl) (l : List Sy) (k : Bool → List Sy → Option Bool) : data_rulesfn4 i x l k = k (decide (x.2.1 < 0 ∨ x.2.1 ≥ (l.length : Int))) l := by
  unfold data_rulesfn4 data_rulesfn4.body
  by_cases c : x.2.1 < 0
  · simp (disch := first | omega | (simp only [List.length_append, List.length_cons, List.length_nil, List.length_set, List.length_take, List.length_drop, List.length_replicate]; omega) | fail) only [cond_t, cond_f, dt, df, w64, wu64, w8, ble_t, ble_f, ieqt, ieqf, inet, inef, Bool.not_true, Bool.not_false, Bool.true_and, Bool.and_true, Bool.false_and, Bool.and_false, Bool.not_not, dTrue, dFalse, Int.toNat_natCast, List.length_append, List.length_cons, List.length_nil, meet_self]
  · by_cases c2 : x.2.1 ≥ (l.length : Int)
    · simp (disch := first | omega | (simp only [List.length_append, List.length_cons, List.length_nil, List.length_set, List.length_take, List.length_drop, List.length_replicate]; omega) | fail) only [cond_t, cond_f, dt, df, w64, wu64, w8, ble_t, ble_f, ieqt, ieqf, inet, inef, Bool.not_true, Bool.not_false, Bool.true_and, Bool.and_true, Bool.false_and, Bool.and_false, Bool.not_not, dTrue, dFalse, Int.toNat_natCast, List.length_append, List.length_cons, List.length_nil, meet_self]
    · simp (disch := first | omega | (simp only [List.length_append, List.length_cons, List.length_nil, List.length_set, List.length_take, List.length_drop, List.length_replicate]; omega) | fail) only [cond_t, cond_f, dt, df, w64, wu64, w8, ble_t, ble_f, ieqt, ieqf, inet, inef, Bool.not_true, Bool.not_false, Bool.true_and, Bool.and_true, Bool.false_and, Bool.and_false, Bool.not_not, dTrue, dFalse, Int.toNat_natCast, List.length_append, List.length_cons, List.length_nil, meet_self]
theorem r5_ (i : Int) (x : Rl) (l : List Sy) (cl : Int) (h : 0 ≤ x.2.1 ∧ x.2.1 < (l.length : Int)) (k : Bool → List Sy → Int → Option Bool) : data_rulesfn5 i x l cl k = k (decide ((l.getD x.2.1.toNat ((⟨#[]⟩ : ByteArray), (false, ((0 : Int), ((0 : Int), ((0 : Int), ())))))).2.2.1 ≠ 1 ∨ (l.getD x.2.1.toNat ((⟨#[]⟩ : ByteArray), (false, ((0 : Int), ((0 : Int), ((0 : Int), ())))))).2.2.2.1 ≠ cl)) l cl := by
  unfold data_rulesfn5 data_rulesfn5.body
  generalize l.getD x.2.1.toNat ((⟨#[]⟩ : ByteArray), (false, ((0 : Int), ((0 : Int), ((0 : Int), ()))))) = y
  by_cases c : y.2.2.1 = 1
  · by_cases c2 : y.2.2.2.1 = cl
    · simp (disch := first | omega | (simp only [List.length_append, List.length_cons, List.length_nil, List.length_set, List.length_take, List.length_drop, List.length_replicate]; omega) | fail) only [cond_t, cond_f, dt, df, w64, wu64, w8, ble_t, ble_f, ieqt, ieqf, inet, inef, Bool.not_true, Bool.not_false, Bool.true_and, Bool.and_true, Bool.false_and, Bool.and_false, Bool.not_not, dTrue, dFalse, Int.toNat_natCast, List.length_append, List.length_cons, List.length_nil, meet_self]
    · simp (disch := first | omega | (simp only [List.length_append, List.length_cons, List.length_nil, List.length_set, List.length_take, List.length_drop, List.length_replicate]; omega) | fail) only [cond_t, cond_f, dt, df, w64, wu64, w8, ble_t, ble_f, ieqt, ieqf, inet, inef, Bool.not_true, Bool.not_false, Bool.true_and, Bool.and_true, Bool.false_and, Bool.and_false, Bool.not_not, dTrue, dFalse, Int.toNat_natCast, List.length_append, List.length_cons, List.length_nil, meet_self]
  · simp (disch := first | omega | (simp only [List.length_append, List.length_cons, List.length_nil, List.length_set, List.length_take, List.length_drop, List.length_replicate]; omega) | fail) only [cond_t, cond_f, dt, df, w64, wu64, w8, ble_t, ble_f, ieqt, ieqf, inet, inef, Bool.not_true, Bool.not_false, Bool.true_and, Bool.and_true, Bool.false_and, Bool.and_false, Bool.not_not, dTrue, dFalse, Int.toNat_natCast, List.length_append, List.length_cons, List.length_nil, meet_self]
theorem relIn (kd : Int) (ws : List Int) (rs : List Rl) (l : List Sy) (hr : rs.length ≤ 1000) (hk : 0 ≤ kd ∧ kd ≤ 8) (cl : Int) (hc : 1 ≤ kd → cl = kd - 1) (q : List Rl) (p : Int) (i : Nat) (hi : i < rs.length) (k1 : Int → Option Bool) (k2 : List Rl → Int → Int → Int → Int → Int → Int → Int → Dt → List Sy → Int → Option Bool) :
    data_Check_L1_L3 ROUNDS (i : Int) q p (i : Int) 5 0 11 11 11 11 8 (kd, ws, rs, ()) l cl (rs.getD i ((0 : Int), ((0 : Int), (false, ())))) k1 k2 = if rel1 kd ws rs l i = 0 then k2 q p (i : Int) 11 11 11 11 8 (kd, ws, rs, ()) l cl else k1 (rel1 kd ws rs l i) := by
  obtain ⟨R, hR⟩ : ∃ R, ROUNDS = R + 1 + 1 + 1 + 1 + 1 + 1 := ⟨1180591620717411303418, rfl⟩
  rw [hR]
  have h3 := fun k => r3_ i (rs.getD i ((0 : Int), ((0 : Int), (false, ())))) (kd, ws, rs, ()) hi hr k
  have hv : rel1 kd ws rs l i = if kd = 0 ∨ (rs.getD i ((0 : Int), ((0 : Int), (false, ())))).1 < 0 ∨ (rs.getD i ((0 : Int), ((0 : Int), (false, ())))).1 ≥ (ws.length : Int) ∨ (0 < i ∧ (rs.getD i ((0 : Int), ((0 : Int), (false, ())))).1 ≤ (rs.getD (i - 1) ((0 : Int), ((0 : Int), (false, ())))).1) ∨ (rs.getD i ((0 : Int), ((0 : Int), (false, ())))).2.1 < 0 ∨ (rs.getD i ((0 : Int), ((0 : Int), (false, ())))).2.1 ≥ (l.length : Int) then 11 else if (l.getD (rs.getD i ((0 : Int), ((0 : Int), (false, ())))).2.1.toNat ((⟨#[]⟩ : ByteArray), (false, ((0 : Int), ((0 : Int), ((0 : Int), ())))))).2.2.1 ≠ 1 ∨ (l.getD (rs.getD i ((0 : Int), ((0 : Int), (false, ())))).2.1.toNat ((⟨#[]⟩ : ByteArray), (false, ((0 : Int), ((0 : Int), ((0 : Int), ())))))).2.2.2.1 ≠ kd - 1 then 8 else 0 := rfl
  generalize rel1 kd ws rs l i = v at hv ⊢
  generalize rs.getD i ((0 : Int), ((0 : Int), (false, ()))) = x at hv h3 ⊢
  rw [data_Check_L1_L3]
  unfold data_Check_L1_L3.body
  simp (disch := first | omega | (simp only [List.length_append, List.length_cons, List.length_nil, List.length_set, List.length_take, List.length_drop, List.length_replicate]; omega) | fail) only [cond_t, cond_f, dt, df, w64, wu64, w8, ble_t, ble_f, ieqt, ieqf, inet, inef, Bool.not_true, Bool.not_false, Bool.true_and, Bool.and_true, Bool.false_and, Bool.and_false, Bool.not_not, dTrue, dFalse, Int.toNat_natCast, List.length_append, List.length_cons, List.length_nil, meet_self]
  rw [r1_]
  by_cases c1 : kd = 0
  · rw [if_pos (Or.inl c1)] at hv
    rw [hv, if_neg (by decide), ieqt c1, cond_t]
  · rw [ieqf c1, cond_f, data_Check_L1_L3]
    unfold data_Check_L1_L3.body
    simp (disch := first | omega | (simp only [List.length_append, List.length_cons, List.length_nil, List.length_set, List.length_take, List.length_drop, List.length_replicate]; omega) | fail) only [cond_t, cond_f, dt, df, w64, wu64, w8, ble_t, ble_f, ieqt, ieqf, inet, inef, Bool.not_true, Bool.not_false, Bool.true_and, Bool.and_true, Bool.false_and, Bool.and_false, Bool.not_not, dTrue, dFalse, Int.toNat_natCast, List.length_append, List.length_cons, List.length_nil, meet_self]
    rw [r2_]
    by_cases c2 : x.1 < 0 ∨ x.1 ≥ (ws.length : Int)
    · rw [if_pos (by omega)] at hv
      rw [hv, if_neg (by decide), dt c2, cond_t]
    · rw [df c2, cond_f, show (0 : Int) + 1 + 1 = 2 from rfl, data_Check_L1_L3]
      unfold data_Check_L1_L3.body
      simp (disch := first | omega | (simp only [List.length_append, List.length_cons, List.length_nil, List.length_set, List.length_take, List.length_drop, List.length_replicate]; omega) | fail) only [cond_t, cond_f, dt, df, w64, wu64, w8, ble_t, ble_f, ieqt, ieqf, inet, inef, Bool.not_true, Bool.not_false, Bool.true_and, Bool.and_true, Bool.false_and, Bool.and_false, Bool.not_not, dTrue, dFalse, Int.toNat_natCast, List.length_append, List.length_cons, List.length_nil, meet_self]
      rw [h3]
      by_cases c3 : 0 < i ∧ x.1 ≤ (rs.getD (i - 1) ((0 : Int), ((0 : Int), (false, ())))).1
      · rw [if_pos (by omega)] at hv
        rw [hv, if_neg (by decide), dt c3, cond_t]
      · rw [df c3, cond_f, show (2 : Int) + 1 = 3 from rfl, data_Check_L1_L3]
        unfold data_Check_L1_L3.body
        simp (disch := first | omega | (simp only [List.length_append, List.length_cons, List.length_nil, List.length_set, List.length_take, List.length_drop, List.length_replicate]; omega) | fail) only [cond_t, cond_f, dt, df, w64, wu64, w8, ble_t, ble_f, ieqt, ieqf, inet, inef, Bool.not_true, Bool.not_false, Bool.true_and, Bool.and_true, Bool.false_and, Bool.and_false, Bool.not_not, dTrue, dFalse, Int.toNat_natCast, List.length_append, List.length_cons, List.length_nil, meet_self]
        rw [r4_]
        by_cases c4 : x.2.1 < 0 ∨ x.2.1 ≥ (l.length : Int)
        · rw [if_pos (by omega)] at hv
          rw [hv, if_neg (by decide), dt c4, cond_t]
        · rw [if_neg (by omega)] at hv
          rw [df c4, cond_f, show (3 : Int) + 1 = 4 from rfl, data_Check_L1_L3]
          unfold data_Check_L1_L3.body
          simp (disch := first | omega | (simp only [List.length_append, List.length_cons, List.length_nil, List.length_set, List.length_take, List.length_drop, List.length_replicate]; omega) | fail) only [cond_t, cond_f, dt, df, w64, wu64, w8, ble_t, ble_f, ieqt, ieqf, inet, inef, Bool.not_true, Bool.not_false, Bool.true_and, Bool.and_true, Bool.false_and, Bool.and_false, Bool.not_not, dTrue, dFalse, Int.toNat_natCast, List.length_append, List.length_cons, List.length_nil, meet_self]
          rw [r5_ _ _ _ _ (by omega), hc (by omega)]
          by_cases c5 : (l.getD x.2.1.toNat ((⟨#[]⟩ : ByteArray), (false, ((0 : Int), ((0 : Int), ((0 : Int), ())))))).2.2.1 ≠ 1 ∨ (l.getD x.2.1.toNat ((⟨#[]⟩ : ByteArray), (false, ((0 : Int), ((0 : Int), ((0 : Int), ())))))).2.2.2.1 ≠ kd - 1
          · rw [if_pos c5] at hv
            rw [hv, if_neg (by decide), dt c5, cond_t]
          · rw [if_neg c5] at hv
            rw [hv, if_pos rfl, df c5, cond_f, show (4 : Int) + 1 = 5 from rfl, data_Check_L1_L3]
            unfold data_Check_L1_L3.body
            simp (disch := first | omega | (simp only [List.length_append, List.length_cons, List.length_nil, List.length_set, List.length_take, List.length_drop, List.length_replicate]; omega) | fail) only [cond_t, cond_f, dt, df, w64, wu64, w8, ble_t, ble_f, ieqt, ieqf, inet, inef, Bool.not_true, Bool.not_false, Bool.true_and, Bool.and_true, Bool.false_and, Bool.and_false, Bool.not_not, dTrue, dFalse, Int.toNat_natCast, List.length_append, List.length_cons, List.length_nil, meet_self]
theorem relL (kd : Int) (ws : List Int) (rs : List Rl) (l : List Sy) (hr : rs.length ≤ 1000) (hk : 0 ≤ kd ∧ kd ≤ 8) (cl : Int) (hc : 1 ≤ kd → cl = kd - 1) (k1 : Int → Option Bool) (k2 : Option Bool) : ∀ (n m i : Nat), i + m = rs.length → m < n →
    data_Check_L1 n rs (rs.length : Int) (i : Int) 11 11 11 11 8 (kd, ws, rs, ()) l cl k1 k2 = if relS kd ws rs l m i = 0 then k2 else k1 (relS kd ws rs l m i)
  | 0, m, i, _, h => by omega
  | n + 1, 0, i, h0, h1 => by
    rw [data_Check_L1]
    unfold data_Check_L1.body relS
    simp (disch := first | omega | (simp only [List.length_append, List.length_cons, List.length_nil, List.length_set, List.length_take, List.length_drop, List.length_replicate]; omega) | fail) only [cond_t, cond_f, dt, df, w64, wu64, w8, ble_t, ble_f, ieqt, ieqf, inet, inef, Bool.not_true, Bool.not_false, Bool.true_and, Bool.and_true, Bool.false_and, Bool.and_false, Bool.not_not, dTrue, dFalse, Int.toNat_natCast, List.length_append, List.length_cons, List.length_nil, meet_self]
    rfl
  | n + 1, m + 1, i, h0, h1 => by
    rw [data_Check_L1]
    unfold data_Check_L1.body relS
    have ih := relL kd ws rs l hr hk cl hc k1 k2 n m (i + 1) (by omega) (by omega)
    simp (disch := first | omega | (simp only [List.length_append, List.length_cons, List.length_nil, List.length_set, List.length_take, List.length_drop, List.length_replicate]; omega) | fail) only [cond_t, cond_f, dt, df, w64, wu64, w8, ble_t, ble_f, ieqt, ieqf, inet, inef, Bool.not_true, Bool.not_false, Bool.true_and, Bool.and_true, Bool.false_and, Bool.and_false, Bool.not_not, dTrue, dFalse, Int.toNat_natCast, List.length_append, List.length_cons, List.length_nil, meet_self]
    have hin := relIn kd ws rs l hr hk cl hc rs (rs.length : Int) i (by omega) k1 (fun l90 n91 n92 n93 n94 n95 n96 n97 t98 l99 n100 => data_Check_L1 n l90 n91 (IntKind.wrap .i64 (n92 + 1)) n93 n94 n95 n96 n97 t98 l99 n100 k1 k2)
    refine hin.trans ?_
    by_cases c : rel1 kd ws rs l i = 0
    · rw [if_pos c, if_pos c, w64 (by omega) (by omega)]
      exact ih
    · rw [if_neg c, if_neg c, if_neg c]
theorem rrelL (kd : Int) (ws : List Int) (rs : List Rl) (l : List Sy) (hr : rs.length ≤ 1000) (hk : 0 ≤ kd ∧ kd ≤ 8) (k1 : Int → Option Bool) (k2 : Option Bool) : ∀ (n m i : Nat), i + m = rs.length → m < n →
    ref15_Check_L2 n l (i : Int) (kd, ws, rs, ()) k1 k2 = if relS kd ws rs l m i = 0 then k2 else k1 (relS kd ws rs l m i)
  | 0, m, i, _, h => by omega
  | n + 1, 0, i, h0, h1 => by
    rw [ref15_Check_L2]
    unfold ref15_Check_L2.body relS
    simp (disch := first | omega | (simp only [List.length_append, List.length_cons, List.length_nil, List.length_set, List.length_take, List.length_drop, List.length_replicate]; omega) | fail) only [cond_t, cond_f, dt, df, w64, wu64, w8, ble_t, ble_f, ieqt, ieqf, inet, inef, Bool.not_true, Bool.not_false, Bool.true_and, Bool.and_true, Bool.false_and, Bool.and_false, Bool.not_not, dTrue, dFalse, Int.toNat_natCast, List.length_append, List.length_cons, List.length_nil, meet_self]
    rfl
  | n + 1, m + 1, i, h0, h1 => by
    rw [ref15_Check_L2]
    unfold ref15_Check_L2.body relS
    have ih := rrelL kd ws rs l hr hk k1 k2 n m (i + 1) (by omega) (by omega)
    have e : ((i : Int) - 1).toNat = i - 1 := by omega
    have hv : rel1 kd ws rs l i = if kd = 0 ∨ (rs.getD i ((0 : Int), ((0 : Int), (false, ())))).1 < 0 ∨ (rs.getD i ((0 : Int), ((0 : Int), (false, ())))).1 ≥ (ws.length : Int) ∨ (0 < i ∧ (rs.getD i ((0 : Int), ((0 : Int), (false, ())))).1 ≤ (rs.getD (i - 1) ((0 : Int), ((0 : Int), (false, ())))).1) ∨ (rs.getD i ((0 : Int), ((0 : Int), (false, ())))).2.1 < 0 ∨ (rs.getD i ((0 : Int), ((0 : Int), (false, ())))).2.1 ≥ (l.length : Int) then 11 else if (l.getD (rs.getD i ((0 : Int), ((0 : Int), (false, ())))).2.1.toNat ((⟨#[]⟩ : ByteArray), (false, ((0 : Int), ((0 : Int), ((0 : Int), ())))))).2.2.1 ≠ 1 ∨ (l.getD (rs.getD i ((0 : Int), ((0 : Int), (false, ())))).2.1.toNat ((⟨#[]⟩ : ByteArray), (false, ((0 : Int), ((0 : Int), ((0 : Int), ())))))).2.2.2.1 ≠ kd - 1 then 8 else 0 := rfl
    generalize rel1 kd ws rs l i = v at hv ⊢
    have n0 : ∀ a : Option Bool, (if (11 : Int) = 0 then a else k1 11) = k1 11 := fun a => if_neg (by decide)
    by_cases c1 : kd = 0
    · rw [if_pos (Or.inl c1)] at hv
      subst hv
      simp (disch := first | omega | (simp only [List.length_append, List.length_cons, List.length_nil, List.length_set, List.length_take, List.length_drop, List.length_replicate]; omega) | fail) only [cond_t, cond_f, dt, df, w64, wu64, w8, ble_t, ble_f, ieqt, ieqf, inet, inef, Bool.not_true, Bool.not_false, Bool.true_and, Bool.and_true, Bool.false_and, Bool.and_false, Bool.not_not, dTrue, dFalse, Int.toNat_natCast, List.length_append, List.length_cons, List.length_nil, meet_self]
      rfl
    · by_cases c2 : (rs.getD i ((0 : Int), ((0 : Int), (false, ())))).1 < 0
      · rw [if_pos (by omega)] at hv
        subst hv
        simp (disch := first | omega | (simp only [List.length_append, List.length_cons, List.length_nil, List.length_set, List.length_take, List.length_drop, List.length_replicate]; omega) | fail) only [cond_t, cond_f, dt, df, w64, wu64, w8, ble_t, ble_f, ieqt, ieqf, inet, inef, Bool.not_true, Bool.not_false, Bool.true_and, Bool.and_true, Bool.false_and, Bool.and_false, Bool.not_not, dTrue, dFalse, Int.toNat_natCast, List.length_append, List.length_cons, List.length_nil, meet_self]
        rfl
      · by_cases c3 : (rs.getD i ((0 : Int), ((0 : Int), (false, ())))).1 ≥ (ws.length : Int)
        · rw [if_pos (by omega)] at hv
          subst hv
          simp (disch := first | omega | (simp only [List.length_append, List.length_cons, List.length_nil, List.length_set, List.length_take, List.length_drop, List.length_replicate]; omega) | fail) only [cond_t, cond_f, dt, df, w64, wu64, w8, ble_t, ble_f, ieqt, ieqf, inet, inef, Bool.not_true, Bool.not_false, Bool.true_and, Bool.and_true, Bool.false_and, Bool.and_false, Bool.not_not, dTrue, dFalse, Int.toNat_natCast, List.length_append, List.length_cons, List.length_nil, meet_self]
          rfl
        · by_cases c4 : 0 < i ∧ (rs.getD i ((0 : Int), ((0 : Int), (false, ())))).1 ≤ (rs.getD (i - 1) ((0 : Int), ((0 : Int), (false, ())))).1
          · rw [if_pos (by omega)] at hv
            subst hv
            obtain ⟨c5, c6⟩ := c4
            simp (disch := first | omega | (simp only [List.length_append, List.length_cons, List.length_nil, List.length_set, List.length_take, List.length_drop, List.length_replicate]; omega) | fail) only [cond_t, cond_f, dt, df, w64, wu64, w8, ble_t, ble_f, ieqt, ieqf, inet, inef, Bool.not_true, Bool.not_false, Bool.true_and, Bool.and_true, Bool.false_and, Bool.and_false, Bool.not_not, dTrue, dFalse, Int.toNat_natCast, List.length_append, List.length_cons, List.length_nil, meet_self, e]
            rfl
          · have c6 : ∀ _ : 0 < i, ¬ (rs.getD i ((0 : Int), ((0 : Int), (false, ())))).1 ≤ (rs.getD (i - 1) ((0 : Int), ((0 : Int), (false, ())))).1 := fun g1 g => c4 ⟨g1, g⟩
            by_cases c7 : (rs.getD i ((0 : Int), ((0 : Int), (false, ())))).2.1 < 0
            · rw [if_pos (by omega)] at hv
              subst hv
              by_cases c5 : 0 < i
              · have c6 := c6 c5
                simp (disch := first | omega | (simp only [List.length_append, List.length_cons, List.length_nil, List.length_set, List.length_take, List.length_drop, List.length_replicate]; omega) | fail) only [cond_t, cond_f, dt, df, w64, wu64, w8, ble_t, ble_f, ieqt, ieqf, inet, inef, Bool.not_true, Bool.not_false, Bool.true_and, Bool.and_true, Bool.false_and, Bool.and_false, Bool.not_not, dTrue, dFalse, Int.toNat_natCast, List.length_append, List.length_cons, List.length_nil, meet_self, e]
                rfl
              · simp (disch := first | omega | (simp only [List.length_append, List.length_cons, List.length_nil, List.length_set, List.length_take, List.length_drop, List.length_replicate]; omega) | fail) only [cond_t, cond_f, dt, df, w64, wu64, w8, ble_t, ble_f, ieqt, ieqf, inet, inef, Bool.not_true, Bool.not_false, Bool.true_and, Bool.and_true, Bool.false_and, Bool.and_false, Bool.not_not, dTrue, dFalse, Int.toNat_natCast, List.length_append, List.length_cons, List.length_nil, meet_self]
                rfl
            · by_cases c8 : (rs.getD i ((0 : Int), ((0 : Int), (false, ())))).2.1 ≥ (l.length : Int)
              · rw [if_pos (by omega)] at hv
                subst hv
                by_cases c5 : 0 < i
                · have c6 := c6 c5
                  simp (disch := first | omega | (simp only [List.length_append, List.length_cons, List.length_nil, List.length_set, List.length_take, List.length_drop, List.length_replicate]; omega) | fail) only [cond_t, cond_f, dt, df, w64, wu64, w8, ble_t, ble_f, ieqt, ieqf, inet, inef, Bool.not_true, Bool.not_false, Bool.true_and, Bool.and_true, Bool.false_and, Bool.and_false, Bool.not_not, dTrue, dFalse, Int.toNat_natCast, List.length_append, List.length_cons, List.length_nil, meet_self, e]
                  rfl
                · simp (disch := first | omega | (simp only [List.length_append, List.length_cons, List.length_nil, List.length_set, List.length_take, List.length_drop, List.length_replicate]; omega) | fail) only [cond_t, cond_f, dt, df, w64, wu64, w8, ble_t, ble_f, ieqt, ieqf, inet, inef, Bool.not_true, Bool.not_false, Bool.true_and, Bool.and_true, Bool.false_and, Bool.and_false, Bool.not_not, dTrue, dFalse, Int.toNat_natCast, List.length_append, List.length_cons, List.length_nil, meet_self]
                  rfl
              · rw [if_neg (by omega)] at hv
                by_cases c9 : (l.getD (rs.getD i ((0 : Int), ((0 : Int), (false, ())))).2.1.toNat ((⟨#[]⟩ : ByteArray), (false, ((0 : Int), ((0 : Int), ((0 : Int), ())))))).2.2.1 = 1
                · by_cases c10 : (l.getD (rs.getD i ((0 : Int), ((0 : Int), (false, ())))).2.1.toNat ((⟨#[]⟩ : ByteArray), (false, ((0 : Int), ((0 : Int), ((0 : Int), ())))))).2.2.2.1 = kd - 1
                  · rw [if_neg (by omega)] at hv
                    subst hv
                    by_cases c5 : 0 < i
                    · have c6 := c6 c5
                      simp (disch := first | omega | (simp only [List.length_append, List.length_cons, List.length_nil, List.length_set, List.length_take, List.length_drop, List.length_replicate]; omega) | fail) only [cond_t, cond_f, dt, df, w64, wu64, w8, ble_t, ble_f, ieqt, ieqf, inet, inef, Bool.not_true, Bool.not_false, Bool.true_and, Bool.and_true, Bool.false_and, Bool.and_false, Bool.not_not, dTrue, dFalse, Int.toNat_natCast, List.length_append, List.length_cons, List.length_nil, meet_self, e]
                      rw [if_pos trivial]
                      exact ih
                    · simp (disch := first | omega | (simp only [List.length_append, List.length_cons, List.length_nil, List.length_set, List.length_take, List.length_drop, List.length_replicate]; omega) | fail) only [cond_t, cond_f, dt, df, w64, wu64, w8, ble_t, ble_f, ieqt, ieqf, inet, inef, Bool.not_true, Bool.not_false, Bool.true_and, Bool.and_true, Bool.false_and, Bool.and_false, Bool.not_not, dTrue, dFalse, Int.toNat_natCast, List.length_append, List.length_cons, List.length_nil, meet_self]
                      rw [if_pos trivial]
                      exact ih
                  · rw [if_pos (by omega)] at hv
                    subst hv
                    by_cases c5 : 0 < i
                    · have c6 := c6 c5
                      simp (disch := first | omega | (simp only [List.length_append, List.length_cons, List.length_nil, List.length_set, List.length_take, List.length_drop, List.length_replicate]; omega) | fail) only [cond_t, cond_f, dt, df, w64, wu64, w8, ble_t, ble_f, ieqt, ieqf, inet, inef, Bool.not_true, Bool.not_false, Bool.true_and, Bool.and_true, Bool.false_and, Bool.and_false, Bool.not_not, dTrue, dFalse, Int.toNat_natCast, List.length_append, List.length_cons, List.length_nil, meet_self, e]
                      rfl
                    · simp (disch := first | omega | (simp only [List.length_append, List.length_cons, List.length_nil, List.length_set, List.length_take, List.length_drop, List.length_replicate]; omega) | fail) only [cond_t, cond_f, dt, df, w64, wu64, w8, ble_t, ble_f, ieqt, ieqf, inet, inef, Bool.not_true, Bool.not_false, Bool.true_and, Bool.and_true, Bool.false_and, Bool.and_false, Bool.not_not, dTrue, dFalse, Int.toNat_natCast, List.length_append, List.length_cons, List.length_nil, meet_self]
                      rfl
                · rw [if_pos (by omega)] at hv
                  subst hv
                  by_cases c5 : 0 < i
                  · have c6 := c6 c5
                    simp (disch := first | omega | (simp only [List.length_append, List.length_cons, List.length_nil, List.length_set, List.length_take, List.length_drop, List.length_replicate]; omega) | fail) only [cond_t, cond_f, dt, df, w64, wu64, w8, ble_t, ble_f, ieqt, ieqf, inet, inef, Bool.not_true, Bool.not_false, Bool.true_and, Bool.and_true, Bool.false_and, Bool.and_false, Bool.not_not, dTrue, dFalse, Int.toNat_natCast, List.length_append, List.length_cons, List.length_nil, meet_self, e]
                    rfl
                  · simp (disch := first | omega | (simp only [List.length_append, List.length_cons, List.length_nil, List.length_set, List.length_take, List.length_drop, List.length_replicate]; omega) | fail) only [cond_t, cond_f, dt, df, w64, wu64, w8, ble_t, ble_f, ieqt, ieqf, inet, inef, Bool.not_true, Bool.not_false, Bool.true_and, Bool.and_true, Bool.false_and, Bool.and_false, Bool.not_not, dTrue, dFalse, Int.toNat_natCast, List.length_append, List.length_cons, List.length_nil, meet_self]
                    rfl
open Classical in
noncomputable def checkD (kd : Int) (ws : List Int) (rs : List Rl) (l : List Sy) : Int := if (textS kd).toList = [] then 8 else if 32 < ws.length then 6 else if kd ≠ 0 ∧ some0 ws 0 then 2 else relS kd ws rs l rs.length 0
theorem rules_ (kd : Int) (ws : List Int) (rs : List Rl) (l : List Sy) (hk : 0 ≤ kd ∧ kd ≤ 8) (k : Int → Int → Int → Int → Int → Dt → List Sy → Int → Option Bool) : data_rules (kd, ws, rs, ()) l k = k 11 11 11 11 8 (kd, ws, rs, ()) l (if 1 ≤ kd then kd - 1 else 0) := by
  unfold data_rules data_rules.body sig_Class sig_Class.body sig_Is sig_Is.body
  by_cases c : 1 ≤ kd
  · rw [if_pos c]
    simp (disch := first | omega | (simp only [List.length_append, List.length_cons, List.length_nil, List.length_set, List.length_take, List.length_drop, List.length_replicate]; omega) | fail) only [cond_t, cond_f, dt, df, w64, wu64, w8, ble_t, ble_f, ieqt, ieqf, inet, inef, Bool.not_true, Bool.not_false, Bool.true_and, Bool.and_true, Bool.false_and, Bool.and_false, Bool.not_not, dTrue, dFalse, Int.toNat_natCast, List.length_append, List.length_cons, List.length_nil, meet_self]
  · rw [if_neg c]
    simp (disch := first | omega | (simp only [List.length_append, List.length_cons, List.length_nil, List.length_set, List.length_take, List.length_drop, List.length_replicate]; omega) | fail) only [cond_t, cond_f, dt, df, w64, wu64, w8, ble_t, ble_f, ieqt, ieqf, inet, inef, Bool.not_true, Bool.not_false, Bool.true_and, Bool.and_true, Bool.false_and, Bool.and_false, Bool.not_not, dTrue, dFalse, Int.toNat_natCast, List.length_append, List.length_cons, List.length_nil, meet_self]
open Classical in
theorem dcheck_ (kd : Int) (ws : List Int) (rs : List Rl) (l : List Sy) (hw : ws.length ≤ 1000) (hr : rs.length ≤ 1000) (k : Int → Option Bool) : data_Check (kd, ws, rs, ()) l k = k (checkD kd ws rs l) := by
  unfold data_Check data_Check.body checkD
  rw [text_, noName]
  by_cases h1 : (textS kd).toList = []
  · rw [if_pos h1, dt h1, cond_t]
  · have hk := textS_in h1
    rw [if_neg h1, df h1, cond_f]
    have tail : (data_rules (kd, ws, rs, ()) l fun n102 n103 n104 n105 n106 t107 l108 n109 => data_Check_L1 ROUNDS rs (rs.length : Int) 0 n102 n103 n104 n105 n106 t107 l108 n109 (fun n110 => k n110) (k 0)) = k (relS kd ws rs l rs.length 0) := by
      rw [rules_ kd ws rs l hk]
      refine (relL kd ws rs l hr hk _ (fun h => if_pos h) _ _ ROUNDS rs.length 0 (by omega) (by unfold ROUNDS; omega)).trans ?_
      by_cases c : relS kd ws rs l rs.length 0 = 0
      · rw [if_pos c, c]
      · rw [if_neg c]
    by_cases h2 : 32 < ws.length
    · rw [if_pos h2]
      simp (disch := first | omega | (simp only [List.length_append, List.length_cons, List.length_nil, List.length_set, List.length_take, List.length_drop, List.length_replicate]; omega) | fail) only [cond_t, cond_f, dt, df, w64, wu64, w8, ble_t, ble_f, ieqt, ieqf, inet, inef, Bool.not_true, Bool.not_false, Bool.true_and, Bool.and_true, Bool.false_and, Bool.and_false, Bool.not_not, dTrue, dFalse, Int.toNat_natCast, List.length_append, List.length_cons, List.length_nil, meet_self]
    · rw [if_neg h2, cond_neg (df (by dsimp only; omega))]
      by_cases h3 : kd = 0
      · rw [if_neg (fun g => g.1 h3), cond_neg (inef h3)]
        exact tail
      · rw [cond_pos (inet h3), contains_ ws hw]
        by_cases h4 : some0 ws 0
        · rw [if_pos ⟨h3, h4⟩, dt h4, cond_t]
        · rw [if_neg (fun g => h4 g.2), df h4, cond_f]
          exact tail
open Classical in
theorem rdcheck_ (kd : Int) (ws : List Int) (rs : List Rl) (l : List Sy) (hk0 : -9223372036854775808 ≤ kd ∧ kd ≤ 9223372036854775807) (hw : ws.length ≤ 1000) (hr : rs.length ≤ 1000) (k : Int → Option Bool) : ref15_Check (kd, ws, rs, ()) l k = k (checkD kd ws rs l) := by
  unfold ref15_Check ref15_Check.body checkD
  rw [rtext_ hk0, noName]
  by_cases h1 : (textS kd).toList = []
  · rw [if_pos h1, dt h1, cond_t]
  · have hk := textS_in h1
    rw [if_neg h1, df h1, cond_f]
    by_cases h2 : 32 < ws.length
    · rw [if_pos h2]
      simp (disch := first | omega | (simp only [List.length_append, List.length_cons, List.length_nil, List.length_set, List.length_take, List.length_drop, List.length_replicate]; omega) | fail) only [cond_t, cond_f, dt, df, w64, wu64, w8, ble_t, ble_f, ieqt, ieqf, inet, inef, Bool.not_true, Bool.not_false, Bool.true_and, Bool.and_true, Bool.false_and, Bool.and_false, Bool.not_not, dTrue, dFalse, Int.toNat_natCast, List.length_append, List.length_cons, List.length_nil, meet_self]
    · rw [if_neg h2, cond_neg (df (by dsimp only; omega))]
      refine (rwordsL kd ws rs l hw _ _ ROUNDS 0 (by omega) (by unfold ROUNDS; omega)).trans ?_
      by_cases h3 : kd ≠ 0 ∧ some0 ws 0
      · rw [if_pos h3, if_pos h3]
      · rw [if_neg h3, if_neg h3]
        refine (rrelL kd ws rs l hr hk _ _ ROUNDS rs.length 0 (by omega) (by unfold ROUNDS; omega)).trans ?_
        by_cases c : relS kd ws rs l rs.length 0 = 0
        · rw [if_pos c, c]
        · rw [if_neg c]
/-- numbers, one after another -/
def numsS (ns : List Int) : List Int → Int → Bool → List Int × Int × Bool
  | [], a, bad => ([], a, bad)
  | w :: r, a, bad => ((rd ns w a bad).1 :: (numsS ns r (rd ns w a bad).2.1 (rd ns w a bad).2.2).1, (numsS ns r (rd ns w a bad).2.1 (rd ns w a bad).2.2).2)
theorem numsL {ns : List Int} (h : bytesOk ns) (hl : ns.length ≤ 100000) (z : Int) (y : Bool) (ws : List Int) (hw : ws.length ≤ 100) (k : Rd → Int → Bool → List Int → Option Bool) : ∀ (n i : Nat) (a : Int) (bad : Bool) (out : List Int), i ≤ ws.length → ws.length - i < n → 0 ≤ a ∧ a ≤ (ns.length : Int) → out.length ≤ i →
    ref13_Nums_L0 n ws (i : Int) (ns, (a, (bad, ()))) z y out k = k (ns, ((numsS ns (ws.drop i) a bad).2.1, ((numsS ns (ws.drop i) a bad).2.2, ()))) z y (out ++ (numsS ns (ws.drop i) a bad).1)
  | 0, i, a, bad, out, _, g, _, _ => by omega
  | n + 1, i, a, bad, out, h0, h1, ha, ho => by
    rw [ref13_Nums_L0]
    unfold ref13_Nums_L0.body
    by_cases hi : i < ws.length
    · have e : ws.drop i = ws.getD i 0 :: ws.drop (i + 1) := by
        rw [List.drop_eq_getElem_cons hi, List.getD_eq_getElem?_getD, List.getElem?_eq_getElem hi]
        rfl
      rw [e]
      simp (disch := first | omega | (simp only [List.length_append, List.length_cons, List.length_nil, List.length_set, List.length_take, List.length_drop, List.length_replicate]; omega) | fail) only [cond_t, cond_f, dt, df, w64, wu64, w8, ble_t, ble_f, ieqt, ieqf, inet, inef, Bool.not_true, Bool.not_false, Bool.true_and, Bool.and_true, Bool.false_and, Bool.and_false, Bool.not_not, dTrue, dFalse, Int.toNat_natCast, List.length_append, List.length_cons, List.length_nil, meet_self]
      rw [rd_rnum h hl ha]
      have ih := numsL h hl z y ws hw k n (i + 1) (rd ns (ws.getD i 0) a bad).2.1 (rd ns (ws.getD i 0) a bad).2.2 (out ++ [(rd ns (ws.getD i 0) a bad).1]) (by omega) (by omega) (rd_at ha) (by simp; omega)
      try simp (disch := first | omega | (simp only [List.length_append, List.length_cons, List.length_nil, List.length_set, List.length_take, List.length_drop, List.length_replicate]; omega) | fail) only [cond_t, cond_f, dt, df, w64, wu64, w8, ble_t, ble_f, ieqt, ieqf, inet, inef, Bool.not_true, Bool.not_false, Bool.true_and, Bool.and_true, Bool.false_and, Bool.and_false, Bool.not_not, dTrue, dFalse, Int.toNat_natCast, List.length_append, List.length_cons, List.length_nil, meet_self]
      rw [numsS]
      rw [List.append_assoc] at ih
      exact ih
    · rw [List.drop_of_length_le (by omega), numsS, List.append_nil]
      simp (disch := first | omega | (simp only [List.length_append, List.length_cons, List.length_nil, List.length_set, List.length_take, List.length_drop, List.length_replicate]; omega) | fail) only [cond_t, cond_f, dt, df, w64, wu64, w8, ble_t, ble_f, ieqt, ieqf, inet, inef, Bool.not_true, Bool.not_false, Bool.true_and, Bool.and_true, Bool.false_and, Bool.and_false, Bool.not_not, dTrue, dFalse, Int.toNat_natCast, List.length_append, List.length_cons, List.length_nil, meet_self]
theorem nums_ {ns : List Int} (h : bytesOk ns) (hl : ns.length ≤ 100000) (ws : List Int) (hw : ws.length ≤ 100) {a : Int} (ha : 0 ≤ a ∧ a ≤ (ns.length : Int)) (bad : Bool) (k : Rd → List Int → Option Bool) :
    ref13_Nums (ns, (a, (bad, ()))) ws k = k (ns, ((numsS ns ws a bad).2.1, ((numsS ns ws a bad).2.2, ()))) (numsS ns ws a bad).1 := by
  unfold ref13_Nums ref13_Nums.body
  exact numsL h hl 0 false ws hw _ ROUNDS 0 a bad [] (by omega) (by unfold ROUNDS; omega) ha (by simp)
def fl (b : Bool) : Int := if b = true then 1 else 0
theorem flag_ (b : Bool) (k : Int → Option Bool) : data_flag b k = k (fl b) := by cases b <;> rfl
def encR1 (x : Rl) : List Int := bts (u64 x.1) 1 ++ bts (u64 x.2.1) 1 ++ bts (u64 (fl x.2.2.1)) 1
def encW (ws : List Int) : Nat → List Int
  | 0 => []
  | i + 1 => encW ws i ++ bts (u64 (ws.getD i 0)) 8
def encR (rs : List Rl) : Nat → List Int
  | 0 => []
  | i + 1 => encR rs i ++ encR1 (rs.getD i ((0 : Int), ((0 : Int), (false, ()))))
theorem encW_len (ws : List Int) : ∀ i, (encW ws i).length = 8 * i
  | 0 => rfl
  | i + 1 => by rw [encW, List.length_append, encW_len ws i, bts_len]; omega
theorem encR_len (rs : List Rl) : ∀ i, (encR rs i).length = 3 * i
  | 0 => rfl
  | i + 1 => by rw [encR, List.length_append, encR_len rs i]; unfold encR1; simp only [List.length_append, bts_len]; omega
def encD (kd : Int) (ws : List Int) (rs : List Rl) : List Int := bts (u64 kd) 1 ++ bts (u64 (ws.length : Int)) 1 ++ encW ws ws.length ++ bts (u64 (rs.length : Int)) 1 ++ encR rs rs.length
theorem b1 (u : Int) : (bts u 1).length = 1 := bts_len u 1
theorem b8 (u : Int) : (bts u 8).length = 8 := bts_len u 8
theorem p1 {ns : List Int} (hl : ns.length ≤ 100000) (n : Int) (k : List Int → Option Bool) : octet_Putv1 ns n 1 k = k (ns ++ bts (u64 n) 1) := octet_Putv1_ hl n 1 k
theorem p8 {ns : List Int} (hl : ns.length ≤ 100000) (n : Int) (k : List Int → Option Bool) : octet_Putv1 ns n 8 k = k (ns ++ bts (u64 n) 8) := octet_Putv1_ hl n 8 k
theorem data_Put_L0_ (ws : List Int) (hl : ws.length ≤ 200) (ns : List Int) (hn : ns.length ≤ 2000) (d : Dt) (k : List Int → Dt → Option Bool) : ∀ (n i : Nat), i ≤ ws.length → ws.length - i < n → data_Put_L0 n ws (ws.length : Int) (i : Int) (ns ++ encW ws i) d k = k (ns ++ encW ws ws.length) d
  | 0, i, _, h => by omega
  | n + 1, i, h0, h1 => by
    rw [data_Put_L0]
    unfold data_Put_L0.body
    have he := encW_len ws i
    by_cases h : i < ws.length
    · simp (disch := first | omega | (simp only [List.length_append, List.length_cons, List.length_nil, List.length_set, List.length_take, List.length_drop, List.length_replicate]; omega) | fail) only [cond_t, cond_f, dt, df, w64, wu64, w8, ble_t, ble_f, ieqt, ieqf, inet, inef, Bool.not_true, Bool.not_false, Bool.true_and, Bool.and_true, Bool.false_and, Bool.and_false, Bool.not_not, dTrue, dFalse, Int.toNat_natCast, List.length_append, List.length_cons, List.length_nil, meet_self]
      rw [p8 (by rw [List.length_append]; omega)]
      have ih := data_Put_L0_ ws hl ns hn d k n (i + 1) (by omega) (by omega)
      rw [encW, ← List.append_assoc] at ih
      exact ih
    · obtain rfl : i = ws.length := by omega
      simp (disch := first | omega | (simp only [List.length_append, List.length_cons, List.length_nil, List.length_set, List.length_take, List.length_drop, List.length_replicate]; omega) | fail) only [cond_t, cond_f, dt, df, w64, wu64, w8, ble_t, ble_f, ieqt, ieqf, inet, inef, Bool.not_true, Bool.not_false, Bool.true_and, Bool.and_true, Bool.false_and, Bool.and_false, Bool.not_not, dTrue, dFalse, Int.toNat_natCast, List.length_append, List.length_cons, List.length_nil, meet_self]
theorem data_Putv1_L0_ (ws : List Int) (hl : ws.length ≤ 200) (ns : List Int) (hn : ns.length ≤ 2000) (d : Dt) (k : List Int → Dt → Option Bool) : ∀ (n i : Nat), i ≤ ws.length → ws.length - i < n → data_Putv1_L0 n ws (ws.length : Int) (i : Int) (ns ++ encW ws i) d k = k (ns ++ encW ws ws.length) d
  | 0, i, _, h => by omega
  | n + 1, i, h0, h1 => by
    rw [data_Putv1_L0]
    unfold data_Putv1_L0.body
    have he := encW_len ws i
    by_cases h : i < ws.length
    · simp (disch := first | omega | (simp only [List.length_append, List.length_cons, List.length_nil, List.length_set, List.length_take, List.length_drop, List.length_replicate]; omega) | fail) only [cond_t, cond_f, dt, df, w64, wu64, w8, ble_t, ble_f, ieqt, ieqf, inet, inef, Bool.not_true, Bool.not_false, Bool.true_and, Bool.and_true, Bool.false_and, Bool.and_false, Bool.not_not, dTrue, dFalse, Int.toNat_natCast, List.length_append, List.length_cons, List.length_nil, meet_self]
      rw [p8 (by rw [List.length_append]; omega)]
      have ih := data_Putv1_L0_ ws hl ns hn d k n (i + 1) (by omega) (by omega)
      rw [encW, ← List.append_assoc] at ih
      exact ih
    · obtain rfl : i = ws.length := by omega
      simp (disch := first | omega | (simp only [List.length_append, List.length_cons, List.length_nil, List.length_set, List.length_take, List.length_drop, List.length_replicate]; omega) | fail) only [cond_t, cond_f, dt, df, w64, wu64, w8, ble_t, ble_f, ieqt, ieqf, inet, inef, Bool.not_true, Bool.not_false, Bool.true_and, Bool.and_true, Bool.false_and, Bool.and_false, Bool.not_not, dTrue, dFalse, Int.toNat_natCast, List.length_append, List.length_cons, List.length_nil, meet_self]
theorem data_Put_L2_ (rs : List Rl) (hl : rs.length ≤ 200) (ns : List Int) (hn : ns.length ≤ 5000) (k : List Int → Option Bool) : ∀ (n i : Nat), i ≤ rs.length → rs.length - i < n → data_Put_L2 n rs (rs.length : Int) (i : Int) (ns ++ encR rs i) k = k (ns ++ encR rs rs.length)
  | 0, i, _, h => by omega
  | n + 1, i, h0, h1 => by
    rw [data_Put_L2]
    unfold data_Put_L2.body
    have he := encR_len rs i
    by_cases h : i < rs.length
    · simp (disch := first | omega | (simp only [List.length_append, List.length_cons, List.length_nil, List.length_set, List.length_take, List.length_drop, List.length_replicate]; omega) | fail) only [cond_t, cond_f, dt, df, w64, wu64, w8, ble_t, ble_f, ieqt, ieqf, inet, inef, Bool.not_true, Bool.not_false, Bool.true_and, Bool.and_true, Bool.false_and, Bool.and_false, Bool.not_not, dTrue, dFalse, Int.toNat_natCast, List.length_append, List.length_cons, List.length_nil, meet_self]
      rw [p1 (by rw [List.length_append]; omega), p1 (by simp only [List.length_append, b1]; omega), flag_, p1 (by simp only [List.length_append, b1]; omega)]
      have ih := data_Put_L2_ rs hl ns hn k n (i + 1) (by omega) (by omega)
      rw [encR, encR1] at ih
      simp only [← List.append_assoc] at ih
      exact ih
    · obtain rfl : i = rs.length := by omega
      simp (disch := first | omega | (simp only [List.length_append, List.length_cons, List.length_nil, List.length_set, List.length_take, List.length_drop, List.length_replicate]; omega) | fail) only [cond_t, cond_f, dt, df, w64, wu64, w8, ble_t, ble_f, ieqt, ieqf, inet, inef, Bool.not_true, Bool.not_false, Bool.true_and, Bool.and_true, Bool.false_and, Bool.and_false, Bool.not_not, dTrue, dFalse, Int.toNat_natCast, List.length_append, List.length_cons, List.length_nil, meet_self]
theorem data_Putv1_L2_ (rs : List Rl) (hl : rs.length ≤ 200) (ns : List Int) (hn : ns.length ≤ 5000) (k : List Int → Option Bool) : ∀ (n i : Nat), i ≤ rs.length → rs.length - i < n → data_Putv1_L2 n rs (rs.length : Int) (i : Int) (ns ++ encR rs i) k = k (ns ++ encR rs rs.length)
  | 0, i, _, h => by omega
  | n + 1, i, h0, h1 => by
    rw [data_Putv1_L2]
    unfold data_Putv1_L2.body
    have he := encR_len rs i
    by_cases h : i < rs.length
    · simp (disch := first | omega | (simp only [List.length_append, List.length_cons, List.length_nil, List.length_set, List.length_take, List.length_drop, List.length_replicate]; omega) | fail) only [cond_t, cond_f, dt, df, w64, wu64, w8, ble_t, ble_f, ieqt, ieqf, inet, inef, Bool.not_true, Bool.not_false, Bool.true_and, Bool.and_true, Bool.false_and, Bool.and_false, Bool.not_not, dTrue, dFalse, Int.toNat_natCast, List.length_append, List.length_cons, List.length_nil, meet_self]
      rw [p1 (by rw [List.length_append]; omega), p1 (by simp only [List.length_append, b1]; omega), flag_, p1 (by simp only [List.length_append, b1]; omega)]
      have ih := data_Putv1_L2_ rs hl ns hn k n (i + 1) (by omega) (by omega)
      rw [encR, encR1] at ih
      simp only [← List.append_assoc] at ih
      exact ih
    · obtain rfl : i = rs.length := by omega
      simp (disch := first | omega | (simp only [List.length_append, List.length_cons, List.length_nil, List.length_set, List.length_take, List.length_drop, List.length_replicate]; omega) | fail) only [cond_t, cond_f, dt, df, w64, wu64, w8, ble_t, ble_f, ieqt, ieqf, inet, inef, Bool.not_true, Bool.not_false, Bool.true_and, Bool.and_true, Bool.false_and, Bool.and_false, Bool.not_not, dTrue, dFalse, Int.toNat_natCast, List.length_append, List.length_cons, List.length_nil, meet_self]
theorem dput_ (kd : Int) (ws : List Int) (rs : List Rl) (hw : ws.length ≤ 200) (hr : rs.length ≤ 200) (ns : List Int) (hn : ns.length ≤ 1000) (k : List Int → Option Bool) : data_Put ns (kd, ws, rs, ()) k = k (ns ++ encD kd ws rs) := by
  unfold data_Put data_Put.body
  have he := encW_len ws ws.length
  have g1 : (1 : Int).toNat = 1 := rfl
  rw [octet_Put_ (by omega), if_neg (by omega), g1, p1 (by simp only [List.length_append, b1]; omega)]
  have h1 := data_Put_L0_ ws hw (ns ++ bts (u64 kd) 1 ++ bts (u64 (ws.length : Int)) 1) (by simp only [List.length_append, b1]; omega) (kd, ws, rs, ()) (fun ns1180 t1181 => octet_Putv1 ns1180 (t1181.2.2.1.length : Int) 1 fun ns1182 => data_Put_L2 ROUNDS t1181.2.2.1 (t1181.2.2.1.length : Int) 0 ns1182 fun ns1191 => k ns1191) ROUNDS 0 (by omega) (by unfold ROUNDS; omega)
  rw [encW, List.append_nil] at h1
  refine h1.trans ?_
  rw [p1 (by simp only [List.length_append, b1]; omega)]
  have h2 := data_Put_L2_ rs hr (ns ++ bts (u64 kd) 1 ++ bts (u64 (ws.length : Int)) 1 ++ encW ws ws.length ++ bts (u64 (rs.length : Int)) 1) (by simp only [List.length_append, b1]; omega) (fun ns1191 => k ns1191) ROUNDS 0 (by omega) (by unfold ROUNDS; omega)
  rw [encR, List.append_nil] at h2
  refine h2.trans ?_
  unfold encD
  simp only [List.append_assoc]
theorem bytesOk_of {ns : List Int} {e : Nat} (h : okD (.sl e (.int .u8)) ns) : bytesOk ns := fun x hx => by
  have := okD_int.1 ((okD_sl.1 h).2 x hx)
  simp [Lit.wf, IntKind.min, IntKind.max, IntKind.bits, IntKind.signed, i_] at this
  omega
def wordsG (ns : List Int) : Nat → Int → Bool → List Int → Int × Bool × List Int
  | 0, a, bad, out => (a, bad, out)
  | m + 1, a, bad, out => wordsG ns m (rd ns 8 a bad).2.1 (rd ns 8 a bad).2.2 (out ++ [(rd ns 8 a bad).1])
structure Three where
  a : Int
  b : Int
  c : Int
  p : Int
  bad : Bool
def three (ns : List Int) (a : Int) (bad : Bool) : Three :=
  let r1 := rd ns 1 a bad
  let r2 := rd ns 1 r1.2.1 r1.2.2
  let r3 := rd ns 1 r2.2.1 r2.2.2
  ⟨r1.1, r2.1, r3.1, r3.2.1, r3.2.2⟩
theorem three_at {ns : List Int} {a : Int} {bad : Bool} (ha : 0 ≤ a ∧ a ≤ (ns.length : Int)) : 0 ≤ (three ns a bad).p ∧ (three ns a bad).p ≤ (ns.length : Int) := by
  unfold three
  exact rd_at (rd_at (rd_at ha))
theorem three_reads {ns : List Int} (h : bytesOk ns) (hl : ns.length ≤ 100000) {a : Int} (ha : 0 ≤ a ∧ a ≤ (ns.length : Int)) (bad : Bool) (K : Int → Int → Int → Int → Bool → Bool → List Int → Option Bool) :
    (octet_Reader_Num 1 a true bad ns fun v1 a1 l1 b1 n1 => octet_Reader_Num 1 a1 l1 b1 n1 fun v2 a2 l2 b2 n2 => octet_Reader_Num 1 a2 l2 b2 n2 fun v3 a3 l3 b3 n3 => K v1 v2 v3 a3 l3 b3 n3) = K (three ns a bad).a (three ns a bad).b (three ns a bad).c (three ns a bad).p true (three ns a bad).bad ns := by
  rw [rd_num h hl ha, rd_num h hl (rd_at ha), rd_num h hl (rd_at (rd_at ha))]
  rfl
theorem nums3 {ns : List Int} (h : bytesOk ns) (hl : ns.length ≤ 100000) {a : Int} (ha : 0 ≤ a ∧ a ≤ (ns.length : Int)) (bad : Bool) (k : Rd → List Int → Option Bool) : ref13_Nums (ns, (a, (bad, ()))) [1, 1, 1] k = k (ns, ((three ns a bad).p, ((three ns a bad).bad, ()))) [(three ns a bad).a, (three ns a bad).b, (three ns a bad).c] := by
  rw [nums_ h hl _ (by simp) ha]
  rfl
def relsG (ns : List Int) : Nat → Int → Bool → List Rl → Int × Int × Bool × List Rl
  | 0, a, bad, out => (0, a, bad, out)
  | m + 1, a, bad, out =>
    let f := three ns a bad
    if f.bad = true then (5, f.p, f.bad, []) else if f.c > 1 then (3, f.p, f.bad, []) else relsG ns m f.p f.bad (out ++ [(f.a, f.b, f.c == 1, ())])
theorem wordsG_at {ns : List Int} : ∀ (m : Nat) {a : Int} {bad : Bool} {out : List Int}, 0 ≤ a ∧ a ≤ (ns.length : Int) → 0 ≤ (wordsG ns m a bad out).1 ∧ (wordsG ns m a bad out).1 ≤ (ns.length : Int)
  | 0, a, bad, out, ha => ha
  | m + 1, a, bad, out, ha => by rw [wordsG]; exact wordsG_at m (rd_at ha)
theorem wordsG_len {ns : List Int} : ∀ (m : Nat) (a : Int) (bad : Bool) (out : List Int), (wordsG ns m a bad out).2.2.length = out.length + m
  | 0, a, bad, out => rfl
  | m + 1, a, bad, out => by rw [wordsG, wordsG_len m]; simp; omega
theorem relsG_len (ns : List Int) : ∀ (m : Nat) (a : Int) (bad : Bool) (out : List Rl), (relsG ns m a bad out).2.2.2.length ≤ out.length + m
  | 0, a, bad, out => by rw [relsG]; exact Nat.le_refl _
  | m + 1, a, bad, out => by
    rw [relsG]
    split
    · exact Nat.zero_le _
    · split
      · exact Nat.zero_le _
      · have := relsG_len ns m (three ns a bad).p (three ns a bad).bad (out ++ [((three ns a bad).a, (three ns a bad).b, (three ns a bad).c == 1, ())])
        simp at this
        omega
theorem dwordsL {ns : List Int} (h : bytesOk ns) (hl : ns.length ≤ 100000) (x y : Int) (k : Int → Bool → Bool → List Int → Int → Int → List Int → Option Bool) : ∀ (n m i : Nat) (a : Int) (bad : Bool) (out : List Int), 0 ≤ a ∧ a ≤ (ns.length : Int) → i + m ≤ 300 → out.length ≤ i → m < n →
    data_Get_L0 n ((i + m : Nat) : Int) (i : Int) a true bad ns x y out k = k (wordsG ns m a bad out).1 true (wordsG ns m a bad out).2.1 ns x y (wordsG ns m a bad out).2.2
  | 0, m, i, a, bad, out, _, _, _, g => by omega
  | n + 1, 0, i, a, bad, out, ha, h1, h2, h3 => by
    rw [data_Get_L0]
    unfold data_Get_L0.body wordsG
    simp (disch := first | omega | (simp only [List.length_append, List.length_cons, List.length_nil, List.length_set, List.length_take, List.length_drop, List.length_replicate]; omega) | fail) only [cond_t, cond_f, dt, df, w64, wu64, w8, ble_t, ble_f, ieqt, ieqf, inet, inef, Bool.not_true, Bool.not_false, Bool.true_and, Bool.and_true, Bool.false_and, Bool.and_false, Bool.not_not, dTrue, dFalse, Int.toNat_natCast, List.length_append, List.length_cons, List.length_nil, meet_self]
  | n + 1, m + 1, i, a, bad, out, ha, h1, h2, h3 => by
    rw [data_Get_L0]
    unfold data_Get_L0.body
    simp (disch := first | omega | (simp only [List.length_append, List.length_cons, List.length_nil, List.length_set, List.length_take, List.length_drop, List.length_replicate]; omega) | fail) only [cond_t, cond_f, dt, df, w64, wu64, w8, ble_t, ble_f, ieqt, ieqf, inet, inef, Bool.not_true, Bool.not_false, Bool.true_and, Bool.and_true, Bool.false_and, Bool.and_false, Bool.not_not, dTrue, dFalse, Int.toNat_natCast, List.length_append, List.length_cons, List.length_nil, meet_self]
    rw [rd_num h hl ha, wordsG]
    try simp (disch := first | omega | (simp only [List.length_append, List.length_cons, List.length_nil, List.length_set, List.length_take, List.length_drop, List.length_replicate]; omega) | fail) only [cond_t, cond_f, dt, df, w64, wu64, w8, ble_t, ble_f, ieqt, ieqf, inet, inef, Bool.not_true, Bool.not_false, Bool.true_and, Bool.and_true, Bool.false_and, Bool.and_false, Bool.not_not, dTrue, dFalse, Int.toNat_natCast, List.length_append, List.length_cons, List.length_nil, meet_self]
    have ih := dwordsL h hl x y k n m (i + 1) (rd ns 8 a bad).2.1 (rd ns 8 a bad).2.2 (out ++ [(rd ns 8 a bad).1]) (rd_at ha) (by omega) (by simp; omega) (by omega)
    rw [show i + 1 + m = i + (m + 1) by omega] at ih
    exact ih
theorem rwordsGL {ns : List Int} (h : bytesOk ns) (hl : ns.length ≤ 100000) (z : Int) (y : Bool) (z2 : Int) (q : List Int) (c : Nat) (hq : q.length = 2) (hqc : q.getD 1 0 = (c : Int)) (kd : Int) (k : Rd → Int → Bool → Int → Int → List Int → Option Bool) : ∀ (n m i : Nat) (a : Int) (bad : Bool) (out : List Int), 0 ≤ a ∧ a ≤ (ns.length : Int) → i + m = c → c ≤ 300 → out.length ≤ i → m < n →
    ref15_Get_L0 n (i : Int) (ns, (a, (bad, ()))) z y z2 q kd out k = k (ns, ((wordsG ns m a bad out).1, ((wordsG ns m a bad out).2.1, ()))) z y z2 kd (wordsG ns m a bad out).2.2
  | 0, m, i, a, bad, out, _, _, _, _, g => by omega
  | n + 1, 0, i, a, bad, out, ha, h1, hc, h2, h3 => by
    rw [ref15_Get_L0]
    unfold ref15_Get_L0.body wordsG
    rw [hqc]
    simp (disch := first | omega | (simp only [List.length_append, List.length_cons, List.length_nil, List.length_set, List.length_take, List.length_drop, List.length_replicate]; omega) | fail) only [cond_t, cond_f, dt, df, w64, wu64, w8, ble_t, ble_f, ieqt, ieqf, inet, inef, Bool.not_true, Bool.not_false, Bool.true_and, Bool.and_true, Bool.false_and, Bool.and_false, Bool.not_not, dTrue, dFalse, Int.toNat_natCast, List.length_append, List.length_cons, List.length_nil, meet_self]
  | n + 1, m + 1, i, a, bad, out, ha, h1, hc, h2, h3 => by
    rw [ref15_Get_L0]
    unfold ref15_Get_L0.body
    rw [hqc]
    simp (disch := first | omega | (simp only [List.length_append, List.length_cons, List.length_nil, List.length_set, List.length_take, List.length_drop, List.length_replicate]; omega) | fail) only [cond_t, cond_f, dt, df, w64, wu64, w8, ble_t, ble_f, ieqt, ieqf, inet, inef, Bool.not_true, Bool.not_false, Bool.true_and, Bool.and_true, Bool.false_and, Bool.and_false, Bool.not_not, dTrue, dFalse, Int.toNat_natCast, List.length_append, List.length_cons, List.length_nil, meet_self]
    rw [rd_rnum h hl ha, wordsG]
    try simp (disch := first | omega | (simp only [List.length_append, List.length_cons, List.length_nil, List.length_set, List.length_take, List.length_drop, List.length_replicate]; omega) | fail) only [cond_t, cond_f, dt, df, w64, wu64, w8, ble_t, ble_f, ieqt, ieqf, inet, inef, Bool.not_true, Bool.not_false, Bool.true_and, Bool.and_true, Bool.false_and, Bool.and_false, Bool.not_not, dTrue, dFalse, Int.toNat_natCast, List.length_append, List.length_cons, List.length_nil, meet_self]
    exact rwordsGL h hl z y z2 q c hq hqc kd k n m (i + 1) (rd ns 8 a bad).2.1 (rd ns 8 a bad).2.2 (out ++ [(rd ns 8 a bad).1]) (rd_at ha) (by omega) hc (by simp; omega) (by omega)
theorem drelsL {ns : List Int} (h : bytesOk ns) (hl : ns.length ≤ 100000) (x y : Int) (ws : List Int) (k1 : Int → Int → Bool → Bool → List Int → Dt → Option Bool) (k2 : Int → Bool → Bool → List Int → Int → Int → List Int → List Rl → Option Bool) : ∀ (n m i : Nat) (a : Int) (bad : Bool) (out : List Rl), 0 ≤ a ∧ a ≤ (ns.length : Int) → i + m ≤ 300 → out.length ≤ i → m < n →
    data_Get_L2 n ((i + m : Nat) : Int) (i : Int) a true bad ns x y ws out k1 k2 = if (relsG ns m a bad out).1 = 0 then k2 (relsG ns m a bad out).2.1 true (relsG ns m a bad out).2.2.1 ns x y ws (relsG ns m a bad out).2.2.2 else k1 (relsG ns m a bad out).1 (relsG ns m a bad out).2.1 true (relsG ns m a bad out).2.2.1 ns (0, [], [], ())
  | 0, m, i, a, bad, out, _, _, _, g => by omega
  | n + 1, 0, i, a, bad, out, ha, h1, h2, h3 => by
    rw [data_Get_L2]
    unfold data_Get_L2.body relsG
    simp (disch := first | omega | (simp only [List.length_append, List.length_cons, List.length_nil, List.length_set, List.length_take, List.length_drop, List.length_replicate]; omega) | fail) only [cond_t, cond_f, dt, df, w64, wu64, w8, ble_t, ble_f, ieqt, ieqf, inet, inef, Bool.not_true, Bool.not_false, Bool.true_and, Bool.and_true, Bool.false_and, Bool.and_false, Bool.not_not, dTrue, dFalse, Int.toNat_natCast, List.length_append, List.length_cons, List.length_nil, meet_self]
    rfl
  | n + 1, m + 1, i, a, bad, out, ha, h1, h2, h3 => by
    rw [data_Get_L2]
    unfold data_Get_L2.body octet_Reader_Bad octet_Reader_Bad.body
    have hf := three_at (bad := bad) ha
    simp (disch := first | omega | (simp only [List.length_append, List.length_cons, List.length_nil, List.length_set, List.length_take, List.length_drop, List.length_replicate]; omega) | fail) only [cond_t, cond_f, dt, df, w64, wu64, w8, ble_t, ble_f, ieqt, ieqf, inet, inef, Bool.not_true, Bool.not_false, Bool.true_and, Bool.and_true, Bool.false_and, Bool.and_false, Bool.not_not, dTrue, dFalse, Int.toNat_natCast, List.length_append, List.length_cons, List.length_nil, meet_self]
    rw [three_reads h hl ha]
    rw [relsG]
    generalize three ns a bad = f at hf ⊢
    by_cases c1 : f.bad = true
    · rw [if_pos c1, c1]
      simp (disch := first | omega | (simp only [List.length_append, List.length_cons, List.length_nil, List.length_set, List.length_take, List.length_drop, List.length_replicate]; omega) | fail) only [cond_t, cond_f, dt, df, w64, wu64, w8, ble_t, ble_f, ieqt, ieqf, inet, inef, Bool.not_true, Bool.not_false, Bool.true_and, Bool.and_true, Bool.false_and, Bool.and_false, Bool.not_not, dTrue, dFalse, Int.toNat_natCast, List.length_append, List.length_cons, List.length_nil, meet_self]
      rfl
    · rw [if_neg c1]
      rw [Bool.not_eq_true] at c1
      rw [c1]
      by_cases c2 : f.c > 1
      · rw [if_pos c2]
        simp (disch := first | omega | (simp only [List.length_append, List.length_cons, List.length_nil, List.length_set, List.length_take, List.length_drop, List.length_replicate]; omega) | fail) only [cond_t, cond_f, dt, df, w64, wu64, w8, ble_t, ble_f, ieqt, ieqf, inet, inef, Bool.not_true, Bool.not_false, Bool.true_and, Bool.and_true, Bool.false_and, Bool.and_false, Bool.not_not, dTrue, dFalse, Int.toNat_natCast, List.length_append, List.length_cons, List.length_nil, meet_self]
        rfl
      · rw [if_neg c2]
        simp (disch := first | omega | (simp only [List.length_append, List.length_cons, List.length_nil, List.length_set, List.length_take, List.length_drop, List.length_replicate]; omega) | fail) only [cond_t, cond_f, dt, df, w64, wu64, w8, ble_t, ble_f, ieqt, ieqf, inet, inef, Bool.not_true, Bool.not_false, Bool.true_and, Bool.and_true, Bool.false_and, Bool.and_false, Bool.not_not, dTrue, dFalse, Int.toNat_natCast, List.length_append, List.length_cons, List.length_nil, meet_self]
        have ih := drelsL h hl x y ws k1 k2 n m (i + 1) f.p false (out ++ [(f.a, f.b, f.c == 1, ())]) hf (by omega) (by simp; omega) (by omega)
        rw [show i + 1 + m = i + (m + 1) by omega] at ih
        exact ih
theorem rrelsGL {ns : List Int} (h : bytesOk ns) (hl : ns.length ≤ 100000) (z : Int) (y : Bool) (k1 : Int → List Int → Int → Bool → Option Bool) (k2 : Rd → Int → Bool → List Rl → Option Bool) : ∀ (n m i : Nat) (a : Int) (bad : Bool) (out : List Rl), 0 ≤ a ∧ a ≤ (ns.length : Int) → i + m ≤ 300 → out.length ≤ i → m < n →
    ref15_GetRelocs_L0 n ((i + m : Nat) : Int) (i : Int) (ns, (a, (bad, ()))) z y out k1 k2 = if (relsG ns m a bad out).1 = 0 then k2 (ns, ((relsG ns m a bad out).2.1, ((relsG ns m a bad out).2.2.1, ()))) z y (relsG ns m a bad out).2.2.2 else k1 (relsG ns m a bad out).1 ns (relsG ns m a bad out).2.1 (relsG ns m a bad out).2.2.1
  | 0, m, i, a, bad, out, _, _, _, g => by omega
  | n + 1, 0, i, a, bad, out, ha, h1, h2, h3 => by
    rw [ref15_GetRelocs_L0]
    unfold ref15_GetRelocs_L0.body relsG
    simp (disch := first | omega | (simp only [List.length_append, List.length_cons, List.length_nil, List.length_set, List.length_take, List.length_drop, List.length_replicate]; omega) | fail) only [cond_t, cond_f, dt, df, w64, wu64, w8, ble_t, ble_f, ieqt, ieqf, inet, inef, Bool.not_true, Bool.not_false, Bool.true_and, Bool.and_true, Bool.false_and, Bool.and_false, Bool.not_not, dTrue, dFalse, Int.toNat_natCast, List.length_append, List.length_cons, List.length_nil, meet_self]
    rfl
  | n + 1, m + 1, i, a, bad, out, ha, h1, h2, h3 => by
    rw [ref15_GetRelocs_L0]
    unfold ref15_GetRelocs_L0.body
    have hf := three_at (bad := bad) ha
    simp (disch := first | omega | (simp only [List.length_append, List.length_cons, List.length_nil, List.length_set, List.length_take, List.length_drop, List.length_replicate]; omega) | fail) only [cond_t, cond_f, dt, df, w64, wu64, w8, ble_t, ble_f, ieqt, ieqf, inet, inef, Bool.not_true, Bool.not_false, Bool.true_and, Bool.and_true, Bool.false_and, Bool.and_false, Bool.not_not, dTrue, dFalse, Int.toNat_natCast, List.length_append, List.length_cons, List.length_nil, meet_self]
    rw [nums3 h hl ha]
    rw [relsG]
    generalize three ns a bad = f at hf ⊢
    by_cases c1 : f.bad = true
    · rw [if_pos c1, c1]
      simp (disch := first | omega | (simp only [List.length_append, List.length_cons, List.length_nil, List.length_set, List.length_take, List.length_drop, List.length_replicate]; omega) | fail) only [cond_t, cond_f, dt, df, w64, wu64, w8, ble_t, ble_f, ieqt, ieqf, inet, inef, Bool.not_true, Bool.not_false, Bool.true_and, Bool.and_true, Bool.false_and, Bool.and_false, Bool.not_not, dTrue, dFalse, Int.toNat_natCast, List.length_append, List.length_cons, List.length_nil, meet_self]
      rfl
    · rw [if_neg c1]
      rw [Bool.not_eq_true] at c1
      rw [c1]
      by_cases c2 : f.c > 1
      · rw [if_pos c2]
        simp (disch := first | omega | (simp only [List.length_append, List.length_cons, List.length_nil, List.length_set, List.length_take, List.length_drop, List.length_replicate]; omega) | fail) only [cond_t, cond_f, dt, df, w64, wu64, w8, ble_t, ble_f, ieqt, ieqf, inet, inef, Bool.not_true, Bool.not_false, Bool.true_and, Bool.and_true, Bool.false_and, Bool.and_false, Bool.not_not, dTrue, dFalse, Int.toNat_natCast, List.length_append, List.length_cons, List.length_nil, meet_self, List.getD_cons_succ, List.getD_cons_zero]
        rfl
      · rw [if_neg c2]
        simp (disch := first | omega | (simp only [List.length_append, List.length_cons, List.length_nil, List.length_set, List.length_take, List.length_drop, List.length_replicate]; omega) | fail) only [cond_t, cond_f, dt, df, w64, wu64, w8, ble_t, ble_f, ieqt, ieqf, inet, inef, Bool.not_true, Bool.not_false, Bool.true_and, Bool.and_true, Bool.false_and, Bool.and_false, Bool.not_not, dTrue, dFalse, Int.toNat_natCast, List.length_append, List.length_cons, List.length_nil, meet_self, List.getD_cons_succ, List.getD_cons_zero]
        have ih := rrelsGL h hl z y k1 k2 n m (i + 1) f.p false (out ++ [(f.a, f.b, f.c == 1, ())]) hf (by omega) (by simp; omega) (by omega)
        rw [show i + 1 + m = i + (m + 1) by omega] at ih
        exact ih
/-- the next data: what it is, an error's number, where the reader is -/
def datE (r1 : Int × Int × Bool) (w : Int × Bool × List Int) (g : Int × Int × Bool × List Rl) : Dt × Int × Int × Bool := if g.1 = 0 then (if g.2.2.1 = true then ((0, [], [], ()), 5, g.2.1, true) else ((r1.1, w.2.2, g.2.2.2, ()), 0, g.2.1, g.2.2.1)) else ((0, [], [], ()), g.1, g.2.1, g.2.2.1)
def datD (ns : List Int) (r1 : Int × Int × Bool) (w : Int × Bool × List Int) (r3 : Int × Int × Bool) : Dt × Int × Int × Bool := datE r1 w (relsG ns r3.1.toNat r3.2.1 r3.2.2 [])
def datC (ns : List Int) (r1 : Int × Int × Bool) (w : Int × Bool × List Int) : Dt × Int × Int × Bool := datD ns r1 w (rd ns 1 w.1 w.2.1)
def datB (ns : List Int) (r1 r2 : Int × Int × Bool) : Dt × Int × Int × Bool := datC ns r1 (wordsG ns r2.1.toNat r2.2.1 r2.2.2 [])
def datA (ns : List Int) (r1 : Int × Int × Bool) : Dt × Int × Int × Bool := datB ns r1 (rd ns 1 r1.2.1 r1.2.2)
def datG (ns : List Int) : Dt × Int × Int × Bool := datA ns (rd ns 1 0 false)
theorem dget_ {ns : List Int} (h : bytesOk ns) (hl : ns.length ≤ 100000) (k : Dt → Int → Int → Bool → Bool → List Int → Option Bool) : data_Get 0 true false ns k = k (datG ns).1 (datG ns).2.1 (datG ns).2.2.1 true (datG ns).2.2.2 ns := by
  unfold data_Get data_Get.body datG datA datB datC datD datE
  have a0 : (0 : Int) ≤ 0 ∧ (0 : Int) ≤ (ns.length : Int) := ⟨by omega, by omega⟩
  rw [rd_num h hl a0]
  have a1 := rd_at (ns := ns) (w := 1) (bad := false) a0
  generalize rd ns 1 0 false = r1 at a1 ⊢
  rw [rd_num h hl a1]
  have a2 := rd_at (ns := ns) (w := 1) (bad := r1.2.2) a1
  have v2 := rd_lt h (w := 1) (bad := r1.2.2) a1 (by omega)
  generalize rd ns 1 r1.2.1 r1.2.2 = r2 at a2 v2 ⊢
  have v2b : r2.1 < 256 := v2.2
  have hw := dwordsL h hl 0 r1.1 (fun n781 b782 b783 ns784 n785 n786 ns787 => octet_Reader_Num 1 n781 b782 b783 ns784 fun n788 n789 b790 b791 ns792 => data_Get_L2 ROUNDS n788 0 n789 b790 b791 ns792 n785 n786 ns787 [] (fun n823 n824 b825 b826 ns827 t828 => k t828 n823 n824 b825 b826 ns827) fun n829 b830 b831 ns832 n833 n834 ns835 ts836 => octet_Reader_Bad n829 b830 b831 ns832 fun b837 n838 b839 b840 ns841 => cond_ b837 (k (0, [], [], ()) 5 n838 b839 b840 ns841) (k (n834, ns835, ts836, ()) 0 n838 b839 b840 ns841)) ROUNDS r2.1.toNat 0 r2.2.1 r2.2.2 [] a2 (by omega) (by simp) (by unfold ROUNDS; omega)
  rw [show ((0 + r2.1.toNat : Nat) : Int) = r2.1 by omega] at hw
  refine hw.trans ?_
  have a3 := wordsG_at (ns := ns) r2.1.toNat (bad := r2.2.2) (out := []) a2
  generalize wordsG ns r2.1.toNat r2.2.1 r2.2.2 [] = w at a3 ⊢
  rw [rd_num h hl a3]
  have a4 := rd_at (ns := ns) (w := 1) (bad := w.2.1) a3
  have v4 := rd_lt h (w := 1) (bad := w.2.1) a3 (by omega)
  generalize rd ns 1 w.1 w.2.1 = r3 at a4 v4 ⊢
  have v4b : r3.1 < 256 := v4.2
  have hg := drelsL h hl 0 r1.1 w.2.2 (fun n823 n824 b825 b826 ns827 t828 => k t828 n823 n824 b825 b826 ns827) (fun n829 b830 b831 ns832 n833 n834 ns835 ts836 => octet_Reader_Bad n829 b830 b831 ns832 fun b837 n838 b839 b840 ns841 => cond_ b837 (k (0, [], [], ()) 5 n838 b839 b840 ns841) (k (n834, ns835, ts836, ()) 0 n838 b839 b840 ns841)) ROUNDS r3.1.toNat 0 r3.2.1 r3.2.2 [] a4 (by omega) (by simp) (by unfold ROUNDS; omega)
  rw [show ((0 + r3.1.toNat : Nat) : Int) = r3.1 by omega] at hg
  refine hg.trans ?_
  generalize relsG ns r3.1.toNat r3.2.1 r3.2.2 [] = g
  by_cases c : g.1 = 0
  · rw [if_pos c, if_pos c]
    unfold octet_Reader_Bad octet_Reader_Bad.body
    by_cases c2 : g.2.2.1 = true
    · rw [if_pos c2, c2]
      simp (disch := first | omega | (simp only [List.length_append, List.length_cons, List.length_nil, List.length_set, List.length_take, List.length_drop, List.length_replicate]; omega) | fail) only [cond_t, cond_f, dt, df, w64, wu64, w8, ble_t, ble_f, ieqt, ieqf, inet, inef, Bool.not_true, Bool.not_false, Bool.true_and, Bool.and_true, Bool.false_and, Bool.and_false, Bool.not_not, dTrue, dFalse, Int.toNat_natCast, List.length_append, List.length_cons, List.length_nil, meet_self]
    · rw [if_neg c2]
      rw [Bool.not_eq_true] at c2
      rw [c2]
      simp (disch := first | omega | (simp only [List.length_append, List.length_cons, List.length_nil, List.length_set, List.length_take, List.length_drop, List.length_replicate]; omega) | fail) only [cond_t, cond_f, dt, df, w64, wu64, w8, ble_t, ble_f, ieqt, ieqf, inet, inef, Bool.not_true, Bool.not_false, Bool.true_and, Bool.and_true, Bool.false_and, Bool.and_false, Bool.not_not, dTrue, dFalse, Int.toNat_natCast, List.length_append, List.length_cons, List.length_nil, meet_self]
  · rw [if_neg c, if_neg c]
theorem datG_len {ns : List Int} (h : bytesOk ns) : (datG ns).1.2.1.length ≤ 1000 ∧ (datG ns).1.2.2.1.length ≤ 1000 := by
  unfold datG datA datB datC datD datE
  have a0 : (0 : Int) ≤ 0 ∧ (0 : Int) ≤ (ns.length : Int) := ⟨by omega, by omega⟩
  have a1 := rd_at (ns := ns) (w := 1) (bad := false) a0
  generalize rd ns 1 0 false = r1 at a1 ⊢
  have a2 := rd_at (ns := ns) (w := 1) (bad := r1.2.2) a1
  have v2 := rd_lt h (w := 1) (bad := r1.2.2) a1 (by omega)
  have v2b : (rd ns 1 r1.2.1 r1.2.2).1 < 256 := v2.2
  have a3 := wordsG_at (ns := ns) (rd ns 1 r1.2.1 r1.2.2).1.toNat (bad := (rd ns 1 r1.2.1 r1.2.2).2.2) (out := []) a2
  have w3 := wordsG_len (ns := ns) (rd ns 1 r1.2.1 r1.2.2).1.toNat (rd ns 1 r1.2.1 r1.2.2).2.1 (rd ns 1 r1.2.1 r1.2.2).2.2 []
  simp only [List.length_nil] at w3
  generalize wordsG ns (rd ns 1 r1.2.1 r1.2.2).1.toNat (rd ns 1 r1.2.1 r1.2.2).2.1 (rd ns 1 r1.2.1 r1.2.2).2.2 [] = w at a3 w3 ⊢
  have v4 := rd_lt h (w := 1) (bad := w.2.1) a3 (by omega)
  have v4b : (rd ns 1 w.1 w.2.1).1 < 256 := v4.2
  have w4 := relsG_len ns (rd ns 1 w.1 w.2.1).1.toNat (rd ns 1 w.1 w.2.1).2.1 (rd ns 1 w.1 w.2.1).2.2 []
  simp only [List.length_nil] at w4
  generalize relsG ns (rd ns 1 w.1 w.2.1).1.toNat (rd ns 1 w.1 w.2.1).2.1 (rd ns 1 w.1 w.2.1).2.2 [] = g at w4 ⊢
  split
  · split
    · exact ⟨Nat.zero_le _, Nat.zero_le _⟩
    · exact ⟨by dsimp only; omega, by dsimp only; omega⟩
  · exact ⟨Nat.zero_le _, Nat.zero_le _⟩
theorem sameRL (a : List Rl) (hl : a.length ≤ 1000) (k1 : Bool → Option Bool) (k2 : Option Bool) : ∀ (n i : Nat), i ≤ a.length → a.length - i < n → ref15_SameRelocs_L0 n a a (i : Int) k1 k2 = k2
  | 0, i, _, h => by omega
  | n + 1, i, h0, h1 => by
    rw [ref15_SameRelocs_L0]
    unfold ref15_SameRelocs_L0.body
    by_cases h : i < a.length
    · simp (disch := first | omega | (simp only [List.length_append, List.length_cons, List.length_nil, List.length_set, List.length_take, List.length_drop, List.length_replicate]; omega) | fail) only [cond_t, cond_f, dt, df, w64, wu64, w8, ble_t, ble_f, ieqt, ieqf, inet, inef, Bool.not_true, Bool.not_false, Bool.true_and, Bool.and_true, Bool.false_and, Bool.and_false, Bool.not_not, dTrue, dFalse, Int.toNat_natCast, List.length_append, List.length_cons, List.length_nil, meet_self, beq_self_eq_true]
      exact sameRL a hl k1 k2 n (i + 1) (by omega) (by omega)
    · simp (disch := first | omega | (simp only [List.length_append, List.length_cons, List.length_nil, List.length_set, List.length_take, List.length_drop, List.length_replicate]; omega) | fail) only [cond_t, cond_f, dt, df, w64, wu64, w8, ble_t, ble_f, ieqt, ieqf, inet, inef, Bool.not_true, Bool.not_false, Bool.true_and, Bool.and_true, Bool.false_and, Bool.and_false, Bool.not_not, dTrue, dFalse, Int.toNat_natCast, List.length_append, List.length_cons, List.length_nil, meet_self]
theorem sameWL (x : Dt) (hl : x.2.1.length ≤ 1000) (k1 : Bool → Option Bool) (k2 : Option Bool) : ∀ (n i : Nat), i ≤ x.2.1.length → x.2.1.length - i < n → ref15_Same_L0 n (i : Int) x x k1 k2 = k2
  | 0, i, _, h => by omega
  | n + 1, i, h0, h1 => by
    rw [ref15_Same_L0]
    unfold ref15_Same_L0.body
    by_cases h : i < x.2.1.length
    · simp (disch := first | omega | (simp only [List.length_append, List.length_cons, List.length_nil, List.length_set, List.length_take, List.length_drop, List.length_replicate]; omega) | fail) only [cond_t, cond_f, dt, df, w64, wu64, w8, ble_t, ble_f, ieqt, ieqf, inet, inef, Bool.not_true, Bool.not_false, Bool.true_and, Bool.and_true, Bool.false_and, Bool.and_false, Bool.not_not, dTrue, dFalse, Int.toNat_natCast, List.length_append, List.length_cons, List.length_nil, meet_self]
      exact sameWL x hl k1 k2 n (i + 1) (by omega) (by omega)
    · simp (disch := first | omega | (simp only [List.length_append, List.length_cons, List.length_nil, List.length_set, List.length_take, List.length_drop, List.length_replicate]; omega) | fail) only [cond_t, cond_f, dt, df, w64, wu64, w8, ble_t, ble_f, ieqt, ieqf, inet, inef, Bool.not_true, Bool.not_false, Bool.true_and, Bool.and_true, Bool.false_and, Bool.and_false, Bool.not_not, dTrue, dFalse, Int.toNat_natCast, List.length_append, List.length_cons, List.length_nil, meet_self]
theorem dsame_ (x : Dt) (h1 : x.2.1.length ≤ 1000) (h2 : x.2.2.1.length ≤ 1000) (k : Bool → Option Bool) : ref15_Same x x k = k true := by
  unfold ref15_Same ref15_Same.body ref15_SameRelocs ref15_SameRelocs.body
  simp (disch := first | omega | (simp only [List.length_append, List.length_cons, List.length_nil, List.length_set, List.length_take, List.length_drop, List.length_replicate]; omega) | fail) only [cond_t, cond_f, dt, df, w64, wu64, w8, ble_t, ble_f, ieqt, ieqf, inet, inef, Bool.not_true, Bool.not_false, Bool.true_and, Bool.and_true, Bool.false_and, Bool.and_false, Bool.not_not, dTrue, dFalse, Int.toNat_natCast, List.length_append, List.length_cons, List.length_nil, meet_self]
  rw [show (0 : Int) = ((0 : Nat) : Int) from rfl, sameRL x.2.2.1 h2 _ _ ROUNDS 0 (by omega) (by unfold ROUNDS; omega)]
  exact sameWL x h1 _ _ ROUNDS 0 (by omega) (by unfold ROUNDS; omega)
theorem putv2_ (n : Int) (k : List Int → Option Bool) : octet_Putv2 n 1 k = k (bts (u64 n) 1) := by
  unfold octet_Putv2 octet_Putv2.body
  rw [cond_pos (by decide), cond_neg (by decide), w64 (n := 8 - 1) (by omega) (by omega), cond_pos (by decide), putCells [] n 1 (by omega) (by omega), ble_t (by rw [bts_len]; decide), cond_t, List.nil_append]
  rfl
theorem dput1_ (kd : Int) (ws : List Int) (rs : List Rl) (hw : ws.length ≤ 200) (hr : rs.length ≤ 200) (k : List Int → Option Bool) : data_Putv1 (kd, ws, rs, ()) k = k (encD kd ws rs) := by
  unfold data_Putv1 data_Putv1.body
  have he := encW_len ws ws.length
  rw [putv2_, p1 (by simp only [b1]; omega)]
  have h1 := data_Putv1_L0_ ws hw (bts (u64 kd) 1 ++ bts (u64 (ws.length : Int)) 1) (by simp only [List.length_append, b1]; omega) (kd, ws, rs, ()) (fun ns1180 t1181 => octet_Putv1 ns1180 (t1181.2.2.1.length : Int) 1 fun ns1182 => data_Putv1_L2 ROUNDS t1181.2.2.1 (t1181.2.2.1.length : Int) 0 ns1182 fun ns1191 => k ns1191) ROUNDS 0 (by omega) (by unfold ROUNDS; omega)
  rw [encW, List.append_nil] at h1
  refine h1.trans ?_
  rw [p1 (by simp only [List.length_append, b1]; omega)]
  have h2 := data_Putv1_L2_ rs hr (bts (u64 kd) 1 ++ bts (u64 (ws.length : Int)) 1 ++ encW ws ws.length ++ bts (u64 (rs.length : Int)) 1) (by simp only [List.length_append, b1]; omega) (fun ns1191 => k ns1191) ROUNDS 0 (by omega) (by unfold ROUNDS; omega)
  rw [encR, List.append_nil] at h2
  refine h2.trans ?_
  unfold encD
  simp only [List.append_assoc]
theorem bts_bytes (u : Int) : ∀ m, ∀ x ∈ bts u m, 0 ≤ x ∧ x < 256
  | 0, x, h => by cases h
  | m + 1, x, h => by
    rcases List.mem_cons.1 h with h | h
    · subst h; omega
    · exact bts_bytes u m x h
theorem val_bts (u : Int) (hu : 0 ≤ u) : ∀ m, val (bts u m) = u % 256 ^ m
  | 0 => by simp [val, bts, Int.emod_one]
  | m + 1 => by
    have h1 := val_from (bts u m) ((u / 256 ^ m) % 256)
    have : val (bts u (m + 1)) = (u / 256 ^ m) % 256 * 256 ^ m + val (bts u m) := by
      show ((u / 256 ^ m) % 256 :: bts u m).foldl (fun u b => u * 256 + b) 0 = _
      rw [List.foldl_cons, Int.zero_mul, Int.zero_add, h1, bts_len]
    rw [this, val_bts u hu m]
    have e : u % 256 ^ (m + 1) = u % (256 ^ m * 256) := by rw [Int.pow_succ]
    have p : (0 : Int) < 256 ^ m := Int.pow_pos (by omega)
    rw [e]
    obtain ⟨v, rfl⟩ := Int.eq_ofNat_of_zero_le hu
    have h := congrArg (fun x : Nat => (x : Int)) (Nat.mod_mul (x := v) (a := 256 ^ m) (b := 256))
    simp only [Int.natCast_add, Int.natCast_mul, Int.natCast_emod, Int.natCast_ediv, Int.natCast_pow] at h
    have h2 : ((256 : Nat) : Int) = 256 := rfl
    rw [h2] at h
    rw [h, Int.mul_comm, Int.add_comm]
theorem rd_app (A B : List Int) (x : Int) (w : Nat) (hw : 1 ≤ w ∧ w ≤ 8) : rd (A ++ (bts (u64 x) w ++ B)) (w : Int) (A.length : Int) false = (IntKind.wrap .i64 (u64 x % 256 ^ w), (A.length : Int) + (w : Int), false) := by
  have hl := bts_len (u64 x) w
  unfold rd
  rw [if_neg (by
    have : (A ++ (bts (u64 x) w ++ B)).length = A.length + (w + B.length) := by simp only [List.length_append, hl]
    rintro (g | g | g | g); cases g; omega; omega; omega)]
  rw [Int.toNat_natCast, Int.toNat_natCast, List.drop_left, List.take_append_of_le_length (by omega), List.take_of_length_le (by omega), val_bts _ (u64_lo x).1]
theorem rd1 (A B : List Int) (x : Int) (hx : 0 ≤ x ∧ x < 256) : rd (A ++ (bts (u64 x) 1 ++ B)) 1 (A.length : Int) false = (x, (A.length : Int) + 1, false) := by
  have := rd_app A B x 1 ⟨by omega, by omega⟩
  have e : IntKind.wrap .i64 (u64 x % 256 ^ 1) = x := by
    unfold u64
    rw [w64 (by omega) (by omega)]
    omega
  rw [e] at this
  exact this
theorem rd8 (A B : List Int) (x : Int) (hx : -9223372036854775808 ≤ x ∧ x ≤ 9223372036854775807) : rd (A ++ (bts (u64 x) 8 ++ B)) 8 (A.length : Int) false = (x, (A.length : Int) + 8, false) := by
  have := rd_app A B x 8 ⟨by omega, by omega⟩
  have e : IntKind.wrap .i64 (u64 x % 256 ^ 8) = x := by
    unfold u64
    rw [IntKind.wrap_i64]
    omega
  rw [e] at this
  exact this
theorem encW_pre (ws : List Int) : ∀ j i : Nat, ∃ R, encW ws (i + j) = encW ws i ++ R
  | 0, i => ⟨[], by rw [Nat.add_zero, List.append_nil]⟩
  | j + 1, i => by
    obtain ⟨R, h⟩ := encW_pre ws j i
    exact ⟨R ++ bts (u64 (ws.getD (i + j) 0)) 8, by rw [show i + (j + 1) = (i + j) + 1 by omega, encW, h, List.append_assoc]⟩
theorem encR_pre (rs : List Rl) : ∀ j i : Nat, ∃ R, encR rs (i + j) = encR rs i ++ R
  | 0, i => ⟨[], by rw [Nat.add_zero, List.append_nil]⟩
  | j + 1, i => by
    obtain ⟨R, h⟩ := encR_pre rs j i
    exact ⟨R ++ encR1 (rs.getD (i + j) ((0 : Int), ((0 : Int), (false, ())))), by rw [show i + (j + 1) = (i + j) + 1 by omega, encR, h, List.append_assoc]⟩
theorem take_snoc {α : Type} (z : α) {ns : List α} {i : Nat} (h : i < ns.length) : ns.take (i + 1) = ns.take i ++ [ns.getD i z] := by
  rw [List.take_add_one, List.getElem?_eq_getElem h, List.getD_eq_getElem?_getD, List.getElem?_eq_getElem h]
  rfl
theorem words_back (ws : List Int) (hv : ∀ i, i < ws.length → -9223372036854775808 ≤ ws.getD i 0 ∧ ws.getD i 0 ≤ 9223372036854775807) (P Q : List Int) : ∀ (m i : Nat), i + m = ws.length → wordsG (P ++ (encW ws ws.length ++ Q)) m ((P ++ encW ws i).length : Int) false (ws.take i) = (((P ++ encW ws ws.length).length : Int), false, ws)
  | 0, i, h => by
    obtain rfl : i = ws.length := by omega
    rw [wordsG, List.take_length]
  | m + 1, i, h => by
    obtain ⟨R, hR⟩ := encW_pre ws m (i + 1)
    have hlen : ws.length = i + 1 + m := by omega
    have e : P ++ (encW ws ws.length ++ Q) = (P ++ encW ws i) ++ (bts (u64 (ws.getD i 0)) 8 ++ (R ++ Q)) := by
      rw [hlen, hR, encW]
      simp only [List.append_assoc]
    have hr := rd8 (P ++ encW ws i) (R ++ Q) (ws.getD i 0) (hv i (by omega))
    rw [← e] at hr
    rw [wordsG, hr]
    have ih := words_back ws hv P Q m (i + 1) (by omega)
    have e2 : ((P ++ encW ws (i + 1)).length : Int) = ((P ++ encW ws i).length : Int) + 8 := by
      rw [encW]
      simp only [List.length_append, b8]
      omega
    rw [e2, take_snoc 0 (by omega)] at ih
    exact ih
theorem fl_back (b : Bool) : (fl b == 1) = b := by cases b <;> rfl
theorem fl_in (b : Bool) : 0 ≤ fl b ∧ fl b ≤ 1 := by unfold fl; split <;> omega
theorem rels_back (rs : List Rl) (hv : ∀ i, i < rs.length → (0 ≤ (rs.getD i ((0 : Int), ((0 : Int), (false, ())))).1 ∧ (rs.getD i ((0 : Int), ((0 : Int), (false, ())))).1 < 256) ∧ (0 ≤ (rs.getD i ((0 : Int), ((0 : Int), (false, ())))).2.1 ∧ (rs.getD i ((0 : Int), ((0 : Int), (false, ())))).2.1 < 256)) (P Q : List Int) : ∀ (m i : Nat), i + m = rs.length → relsG (P ++ (encR rs rs.length ++ Q)) m ((P ++ encR rs i).length : Int) false (rs.take i) = (0, ((P ++ encR rs rs.length).length : Int), false, rs)
  | 0, i, h => by
    obtain rfl : i = rs.length := by omega
    rw [relsG, List.take_length]
  | m + 1, i, h => by
    obtain ⟨R, hR⟩ := encR_pre rs m (i + 1)
    have hlen : rs.length = i + 1 + m := by omega
    have hx := hv i (by omega)
    have ht : rs.take (i + 1) = rs.take i ++ [rs.getD i ((0 : Int), ((0 : Int), (false, ())))] := take_snoc ((0 : Int), ((0 : Int), (false, ()))) (by omega)
    have hE : encR rs (i + 1) = encR rs i ++ encR1 (rs.getD i ((0 : Int), ((0 : Int), (false, ())))) := rfl
    generalize rs.getD i ((0 : Int), ((0 : Int), (false, ()))) = x at hx ht hE
    obtain ⟨x1, x2, x3, ⟨⟩⟩ := x
    have e : P ++ (encR rs rs.length ++ Q) = (P ++ encR rs i) ++ (bts (u64 x1) 1 ++ (bts (u64 x2) 1 ++ (bts (u64 (fl x3)) 1 ++ (R ++ Q)))) := by
      rw [hlen, hR, hE, encR1]
      simp only [List.append_assoc]
    have ih := rels_back rs hv P Q m (i + 1) (by omega)
    have hf := fl_in x3
    have r1 := rd1 (P ++ encR rs i) (bts (u64 x2) 1 ++ (bts (u64 (fl x3)) 1 ++ (R ++ Q))) x1 hx.1
    have r2 := rd1 (P ++ encR rs i ++ bts (u64 x1) 1) (bts (u64 (fl x3)) 1 ++ (R ++ Q)) x2 hx.2
    have r3 := rd1 (P ++ encR rs i ++ bts (u64 x1) 1 ++ bts (u64 x2) 1) (R ++ Q) (fl x3) ⟨hf.1, by omega⟩
    simp only [List.append_assoc] at r1 r2 r3 e
    rw [← e] at r1 r2 r3
    have l1 : ((P ++ (encR rs i ++ bts (u64 x1) 1)).length : Int) = ((P ++ encR rs i).length : Int) + 1 := by simp only [List.length_append, b1]; omega
    have l2 : ((P ++ (encR rs i ++ (bts (u64 x1) 1 ++ bts (u64 x2) 1))).length : Int) = ((P ++ encR rs i).length : Int) + 1 + 1 := by simp only [List.length_append, b1]; omega
    rw [l1] at r2
    rw [l2] at r3
    have l3 : ((P ++ encR rs (i + 1)).length : Int) = ((P ++ encR rs i).length : Int) + 1 + 1 + 1 := by rw [hE, encR1]; simp only [List.length_append, b1]; omega
    have h3 : three (P ++ (encR rs rs.length ++ Q)) ((P ++ encR rs i).length : Int) false = ⟨x1, x2, fl x3, ((P ++ encR rs i).length : Int) + 1 + 1 + 1, false⟩ := by
      unfold three
      rw [r1]
      dsimp only
      rw [r2]
      dsimp only
      rw [r3]
    rw [relsG, h3]
    dsimp only
    rw [if_neg (by decide), if_neg (by omega), fl_back]
    rw [l3, ht] at ih
    exact ih
theorem relS_all (kd : Int) (ws : List Int) (rs : List Rl) (l : List Sy) : ∀ (m i : Nat), relS kd ws rs l m i = 0 → ∀ j, i ≤ j → j < i + m → rel1 kd ws rs l j = 0
  | 0, i, _, j, h1, h2 => by omega
  | m + 1, i, h, j, h1, h2 => by
    rw [relS] at h
    split at h
    · rename_i h0
      by_cases e : j = i
      · rw [e]; exact h0
      · exact relS_all kd ws rs l m (i + 1) h j (by omega) (by omega)
    · rename_i h0
      exact absurd h h0
theorem dat_back (kd : Int) (ws : List Int) (rs : List Rl) (l : List Sy) (ms : List Int) (hw : ws.length ≤ 100) (hr : rs.length ≤ 100) (hl : l.length ≤ 60) (hv : ∀ i, i < ws.length → -9223372036854775808 ≤ ws.getD i 0 ∧ ws.getD i 0 ≤ 9223372036854775807) (hc : checkD kd ws rs l = 0) :
    datG (encD kd ws rs ++ ms) = ((kd, ws, rs, ()), 0, ((encD kd ws rs).length : Int), false) := by
  unfold checkD at hc
  split at hc
  · cases hc
  · rename_i h1
    have hk := textS_in h1
    split at hc
    · cases hc
    · split at hc
      · cases hc
      · have hall := relS_all kd ws rs l rs.length 0 hc
        have hrel : ∀ i, i < rs.length → (0 ≤ (rs.getD i ((0 : Int), ((0 : Int), (false, ())))).1 ∧ (rs.getD i ((0 : Int), ((0 : Int), (false, ())))).1 < 256) ∧ (0 ≤ (rs.getD i ((0 : Int), ((0 : Int), (false, ())))).2.1 ∧ (rs.getD i ((0 : Int), ((0 : Int), (false, ())))).2.1 < 256) := by
          intro i hi
          have h := hall i (by omega) (by omega)
          unfold rel1 at h
          split at h
          · cases h
          · rename_i g
            exact ⟨⟨by omega, by omega⟩, by omega, by omega⟩
        have e0 : encD kd ws rs ++ ms = [] ++ (bts (u64 kd) 1 ++ (bts (u64 (ws.length : Int)) 1 ++ (encW ws ws.length ++ (bts (u64 (rs.length : Int)) 1 ++ (encR rs rs.length ++ ms))))) := by
          unfold encD
          simp only [List.append_assoc, List.nil_append]
        have r1 := rd1 [] (bts (u64 (ws.length : Int)) 1 ++ (encW ws ws.length ++ (bts (u64 (rs.length : Int)) 1 ++ (encR rs rs.length ++ ms)))) kd ⟨hk.1, by omega⟩
        have r2 := rd1 (bts (u64 kd) 1) (encW ws ws.length ++ (bts (u64 (rs.length : Int)) 1 ++ (encR rs rs.length ++ ms))) (ws.length : Int) ⟨by omega, by omega⟩
        have wb := words_back ws hv (bts (u64 kd) 1 ++ bts (u64 (ws.length : Int)) 1) (bts (u64 (rs.length : Int)) 1 ++ (encR rs rs.length ++ ms)) ws.length 0 (by omega)
        have r3 := rd1 (bts (u64 kd) 1 ++ bts (u64 (ws.length : Int)) 1 ++ encW ws ws.length) (encR rs rs.length ++ ms) (rs.length : Int) ⟨by omega, by omega⟩
        have rb := rels_back rs hrel (bts (u64 kd) 1 ++ bts (u64 (ws.length : Int)) 1 ++ encW ws ws.length ++ bts (u64 (rs.length : Int)) 1) ms rs.length 0 (by omega)
        rw [← e0] at r1
        simp only [encW, encR, List.append_assoc, List.append_nil, List.nil_append] at r1 r2 r3 wb rb e0
        rw [← e0] at r2 r3 wb rb
        have lA : (([] : List Int).length : Int) = 0 := rfl
        have l1 : ((bts (u64 kd) 1).length : Int) = 0 + 1 := by rw [b1]; rfl
        have l2 : ((bts (u64 kd) 1 ++ bts (u64 (ws.length : Int)) 1).length : Int) = 0 + 1 + 1 := by simp only [List.length_append, b1]; rfl
        have l4 : ((bts (u64 kd) 1 ++ (bts (u64 (ws.length : Int)) 1 ++ (encW ws ws.length ++ bts (u64 (rs.length : Int)) 1))).length : Int) = ((bts (u64 kd) 1 ++ (bts (u64 (ws.length : Int)) 1 ++ encW ws ws.length)).length : Int) + 1 := by simp only [List.length_append, b1]; omega
        have l5 : ((encD kd ws rs).length : Int) = ((bts (u64 kd) 1 ++ (bts (u64 (ws.length : Int)) 1 ++ (encW ws ws.length ++ (bts (u64 (rs.length : Int)) 1 ++ encR rs rs.length)))).length : Int) := by unfold encD; simp only [List.append_assoc]
        rw [lA] at r1
        rw [l1] at r2
        rw [l2] at wb
        rw [l4] at rb
        unfold datG datA datB datC datD datE
        simp only [List.take_zero] at wb rb
        rw [r1]
        dsimp only
        rw [r2]
        dsimp only
        rw [Int.toNat_natCast, wb]
        dsimp only
        rw [r3]
        dsimp only
        rw [Int.toNat_natCast, rb]
        dsimp only
        rw [if_pos rfl, if_neg (by decide), l5]
theorem holds (d : Dt) (l : List Sy) (ms : List Int) (h0 : okD (.st [(.int .i64), (.sl 2 (.int .i64)), (.sl 51 (.st [(.int .i64), (.int .i64), .bool]))]) d) (h1 : okD (.sl 53 (.st [.str, .bool, (.int .i64), (.int .i64), (.int .i64)])) l) (h2 : okD (.sl 5 (.int .u8)) ms) : law15_DataBack d l ms (fun y => some y) = some true := by
  have hb := bytesOk_of h2
  obtain ⟨kd, ws, rs, ⟨⟩⟩ := d
  have hd := okD_st.1 h0
  have hw64 : ∀ i, i < ws.length → -9223372036854775808 ≤ ws.getD i 0 ∧ ws.getD i 0 ≤ 9223372036854775807 := by
    intro i hi
    have h := (okD_sl.1 (okDs_cons.1 (okDs_cons.1 hd).2).1).2
    rw [List.getD_eq_getElem?_getD, List.getElem?_eq_getElem hi]
    exact ok64 (h _ (List.getElem_mem _))
  unfold law15_DataBack law15_DataBack.body law15_known octet_Newv1 octet_Newv1.body octet_Reader_At octet_Reader_At.body
  rw [few_]
  by_cases c1 : ws.length ≤ 100 ∧ rs.length ≤ 100
  · rw [dt c1]
    by_cases c2 : (l.length : Int) > 60
    · simp (disch := first | omega | (simp only [List.length_append, List.length_cons, List.length_nil, List.length_set, List.length_take, List.length_drop, List.length_replicate]; omega) | fail) only [cond_t, cond_f, dt, df, w64, wu64, w8, ble_t, ble_f, ieqt, ieqf, inet, inef, Bool.not_true, Bool.not_false, Bool.true_and, Bool.and_true, Bool.false_and, Bool.and_false, Bool.not_not, dTrue, dFalse, Int.toNat_natCast, List.length_append, List.length_cons, List.length_nil, meet_self]
    · by_cases c3 : (ms.length : Int) > 100
      · simp (disch := first | omega | (simp only [List.length_append, List.length_cons, List.length_nil, List.length_set, List.length_take, List.length_drop, List.length_replicate]; omega) | fail) only [cond_t, cond_f, dt, df, w64, wu64, w8, ble_t, ble_f, ieqt, ieqf, inet, inef, Bool.not_true, Bool.not_false, Bool.true_and, Bool.and_true, Bool.false_and, Bool.and_false, Bool.not_not, dTrue, dFalse, Int.toNat_natCast, List.length_append, List.length_cons, List.length_nil, meet_self]
      · have hlen : (encD kd ws rs).length ≤ 2000 := by
          have e1 := encW_len ws ws.length
          have e2 := encR_len rs rs.length
          unfold encD
          simp only [List.length_append, b1, e1, e2]
          omega
        have hbk : bytesOk (encD kd ws rs ++ ms) := by
          have hW : ∀ i, ∀ x ∈ encW ws i, 0 ≤ x ∧ x < 256 := by
            intro i
            induction i with
            | zero => intro x hx; cases hx
            | succ i ih =>
              intro x hx
              rcases List.mem_append.1 hx with hx | hx
              · exact ih x hx
              · exact bts_bytes _ _ x hx
          have hR : ∀ i, ∀ x ∈ encR rs i, 0 ≤ x ∧ x < 256 := by
            intro i
            induction i with
            | zero => intro x hx; cases hx
            | succ i ih =>
              intro x hx
              rcases List.mem_append.1 hx with hx | hx
              · exact ih x hx
              · unfold encR1 at hx
                simp only [List.mem_append] at hx
                rcases hx with (hx | hx) | hx <;> exact bts_bytes _ _ x hx
          intro x hx
          unfold encD at hx
          simp only [List.mem_append] at hx
          rcases hx with ((((hx | hx) | hx) | hx) | hx) | hx
          · exact bts_bytes _ _ x hx
          · exact bts_bytes _ _ x hx
          · exact hW _ x hx
          · exact bts_bytes _ _ x hx
          · exact hR _ x hx
          · exact hb x hx
        simp (disch := first | omega | (simp only [List.length_append, List.length_cons, List.length_nil, List.length_set, List.length_take, List.length_drop, List.length_replicate]; omega) | fail) only [cond_t, cond_f, dt, df, w64, wu64, w8, ble_t, ble_f, ieqt, ieqf, inet, inef, Bool.not_true, Bool.not_false, Bool.true_and, Bool.and_true, Bool.false_and, Bool.and_false, Bool.not_not, dTrue, dFalse, Int.toNat_natCast, List.length_append, List.length_cons, List.length_nil, meet_self]
        rw [dput1_ kd ws rs (by omega) (by omega)]
        simp (disch := first | omega | (simp only [List.length_append, List.length_cons, List.length_nil, List.length_set, List.length_take, List.length_drop, List.length_replicate]; omega) | fail) only [cond_t, cond_f, dt, df, w64, wu64, w8, ble_t, ble_f, ieqt, ieqf, inet, inef, Bool.not_true, Bool.not_false, Bool.true_and, Bool.and_true, Bool.false_and, Bool.and_false, Bool.not_not, dTrue, dFalse, Int.toNat_natCast, List.length_append, List.length_cons, List.length_nil, meet_self, List.nil_append]
        rw [dget_ hbk (by rw [List.length_append]; omega), dcheck_ kd ws rs l (by omega) (by omega)]
        by_cases c4 : checkD kd ws rs l = 0
        · rw [dat_back kd ws rs l ms (by omega) (by omega) (by omega) hw64 c4, c4]
          simp (disch := first | omega | (simp only [List.length_append, List.length_cons, List.length_nil, List.length_set, List.length_take, List.length_drop, List.length_replicate]; omega) | fail) only [cond_t, cond_f, dt, df, w64, wu64, w8, ble_t, ble_f, ieqt, ieqf, inet, inef, Bool.not_true, Bool.not_false, Bool.true_and, Bool.and_true, Bool.false_and, Bool.and_false, Bool.not_not, dTrue, dFalse, Int.toNat_natCast, List.length_append, List.length_cons, List.length_nil, meet_self]
          rw [dsame_ _ (by dsimp only; omega) (by dsimp only; omega)]
          simp (disch := first | omega | (simp only [List.length_append, List.length_cons, List.length_nil, List.length_set, List.length_take, List.length_drop, List.length_replicate]; omega) | fail) only [cond_t, cond_f, dt, df, w64, wu64, w8, ble_t, ble_f, ieqt, ieqf, inet, inef, Bool.not_true, Bool.not_false, Bool.true_and, Bool.and_true, Bool.false_and, Bool.and_false, Bool.not_not, dTrue, dFalse, Int.toNat_natCast, List.length_append, List.length_cons, List.length_nil, meet_self]
        · simp (disch := first | omega | (simp only [List.length_append, List.length_cons, List.length_nil, List.length_set, List.length_take, List.length_drop, List.length_replicate]; omega) | fail) only [cond_t, cond_f, dt, df, w64, wu64, w8, ble_t, ble_f, ieqt, ieqf, inet, inef, Bool.not_true, Bool.not_false, Bool.true_and, Bool.and_true, Bool.false_and, Bool.and_false, Bool.not_not, dTrue, dFalse, Int.toNat_natCast, List.length_append, List.length_cons, List.length_nil, meet_self]
  · rw [df c1]
    simp (disch := first | omega | (simp only [List.length_append, List.length_cons, List.length_nil, List.length_set, List.length_take, List.length_drop, List.length_replicate]; omega) | fail) only [cond_t, cond_f, dt, df, w64, wu64, w8, ble_t, ble_f, ieqt, ieqf, inet, inef, Bool.not_true, Bool.not_false, Bool.true_and, Bool.and_true, Bool.false_and, Bool.and_false, Bool.not_not, dTrue, dFalse, Int.toNat_natCast, List.length_append, List.length_cons, List.length_nil, meet_self]

end Go.Proofs.Ytbedajhajmkapaa.dataBack
