/- What the plain functions answer: the law, without program or memory. -/
import Derived.Test.YtbedajhajmkapaaMG
import Derived.IntWalk
import Derived.Laws.Strings
namespace Go.Proofs.Ytbedajhajmkapaa.dataOctets
open Go.AX Go.Proofs.Ytbedajhajmkapaa.g
set_option linter.unusedVariables false
set_option linter.unusedSimpArgs false
theorem cond_ite (b : Bool) (x y : Option Bool) : cond_ b x y = if b = true then x else y := by cases b <;> rfl
@[simp] theorem cond_t (x y : Option Bool) : cond_ true x y = x := (cond_ite true x y).trans (if_pos rfl)
@[simp] theorem cond_f (x y : Option Bool) : cond_ false x y = y := (cond_ite false x y).trans (if_neg (by decide))
theorem cond_pos {b : Bool} {x y : Option Bool} (h : b = true) : cond_ b x y = x := by rw [h]; rfl
theorem cond_neg {b : Bool} {x y : Option Bool} (h : b = false) : cond_ b x y = y := by rw [h]; rfl
@[simp] theorem meet_self (x : Option Bool) : meet x x = x := by
  cases x with
  | none => rfl
  | some a => simp [meet]
theorem w64 {n : Int} (h1 : -9223372036854775808 ≤ n) (h2 : n ≤ 9223372036854775807) : IntKind.wrap .i64 n = n := IntWalk.i64_in n ⟨h1, h2⟩
theorem w8 {n : Int} (h1 : 0 ≤ n) (h2 : n ≤ 255) : IntKind.wrap .u8 n = n := IntWalk.u8_in n ⟨h1, h2⟩
theorem wu64 {n : Int} (h1 : 0 ≤ n) (h2 : n ≤ 18446744073709551615) : IntKind.wrap .u64 n = n := IntWalk.u64_in n ⟨h1, h2⟩
theorem ble_t {a b : Nat} (h : a ≤ b) : Nat.ble a b = true := by rw [Nat.ble_eq]; exact h
theorem ok64 {n : Int} (h : okD (.int .i64) n) : -9223372036854775808 ≤ n ∧ n ≤ 9223372036854775807 := by
  have := okD_int.1 h
  simpa [Lit.wf, IntKind.min, IntKind.max, IntKind.bits, IntKind.signed, i_] using this
theorem not_t {p : Prop} [Decidable p] (h : ¬p) : (!decide p) = true := by simp [h]
theorem not_f {p : Prop} [Decidable p] (h : p) : (!decide p) = false := by simp [h]
theorem cond_congr {b c : Bool} (h : b = c) (x y : Option Bool) : cond_ b x y = cond_ c x y := by rw [h]
attribute [local congr] cond_congr
theorem dt {p : Prop} [Decidable p] (h : p) : decide p = true := decide_eq_true h
theorem df {p : Prop} [Decidable p] (h : ¬p) : decide p = false := decide_eq_false h
theorem ieqt {a b : Int} (h : a = b) : (a == b) = true := by simp [h]
theorem ieqf {a b : Int} (h : a ≠ b) : (a == b) = false := by simp [h]
theorem inet {a b : Int} (h : a ≠ b) : (a != b) = true := by simp [h]
theorem inef {a b : Int} (h : a = b) : (a != b) = false := by simp [h]
theorem ble_f {a b : Nat} (h : b < a) : Nat.ble a b = false := by
  cases hb : Nat.ble a b with
  | false => rfl
  | true => rw [Nat.ble_eq] at hb; omega
theorem rounds_ : ∃ R, ROUNDS = R ∧ 1000000000 ≤ R := ⟨ROUNDS, rfl, by unfold ROUNDS; omega⟩
theorem dTrue {i : Decidable True} : decide True = true := dt trivial
theorem dFalse {i : Decidable False} : decide False = false := df fun h => h
theorem if_iff {α : Type} {p q : Prop} [Decidable p] [Decidable q] (h : p ↔ q) (a b : α) : (if p then a else b) = (if q then a else b) := by
  by_cases hp : p
  · rw [if_pos hp, if_pos (h.1 hp)]
  · rw [if_neg hp, if_neg (fun g => hp (h.2 g))]
def u64 (n : Int) : Int := n % 18446744073709551616
theorem wu64_eq (n : Int) : IntKind.wrap .u64 n = u64 n := by
  simp [IntKind.wrap, IntKind.bits, IntKind.signed, u64]
/-- the last bytes of a number -/
def bts (u : Int) : Nat → List Int
  | 0 => []
  | m + 1 => (u / 256 ^ m) % 256 :: bts u m
theorem bts_len (u : Int) : ∀ m, (bts u m).length = m
  | 0 => rfl
  | m + 1 => by simp [bts, bts_len u m]
theorem w8_eq (n : Int) : IntKind.wrap .u8 n = n % 256 := by
  simp [IntKind.wrap, IntKind.bits, IntKind.signed]
theorem u64_lo (n : Int) : 0 ≤ u64 n ∧ u64 n < 18446744073709551616 := by unfold u64; omega
theorem innerL (u : Int) (ns : List Int) (K : Int → Int → Int → List Int → Option Bool) : ∀ (n : Nat) (i k x : Int), 0 ≤ k → k ≤ i → i ≤ 8 → 0 ≤ x → x < 18446744073709551616 → (i - k).toNat < n → ref02_Put_L0_L2 n u i x k ns K = K u i (x / 256 ^ (i - k).toNat) ns
  | 0, i, k, x, _, _, _, _, _, h => by omega
  | n + 1, i, k, x, h0, h1, h2, h3, h4, h5 => by
    rw [ref02_Put_L0_L2]
    unfold ref02_Put_L0_L2.body
    by_cases h : k < i
    · have e : IntKind.wrap .u64 (Int.tdiv x 256) = x / 256 := by
        rw [Int.tdiv_eq_ediv_of_nonneg h3, wu64 (by omega) (by omega)]
      rw [cond_pos (by simpa using h), e, w64 (by omega) (by omega), innerL u ns K n i (k + 1) (x / 256) (by omega) (by omega) h2 (by omega) (by omega) (by omega)]
      congr 1
      rw [show (i - k).toNat = (i - (k + 1)).toNat + 1 by omega, Int.pow_succ, Int.mul_comm, Int.ediv_ediv_of_nonneg (by omega)]
    · rw [cond_neg (by simpa using h)]
      rw [show (i - k).toNat = 0 by omega]
      simp
theorem outerL (u : Int) (hu : 0 ≤ u ∧ u < 18446744073709551616) (K : List Int → Option Bool) : ∀ (n : Nat) (m : Nat) (acc : List Int), m ≤ 8 → acc.length ≤ 4194304 - m → m < n → ref02_Put_L0 n u ((m : Int) - 1) acc K = K (acc ++ bts u m)
  | 0, m, acc, _, _, h => by omega
  | n + 1, 0, acc, _, _, h => by
    rw [ref02_Put_L0]
    unfold ref02_Put_L0.body
    rw [cond_neg (by simp)]
    simp [bts]
  | n + 1, m + 1, acc, h1, h2, h3 => by
    rw [ref02_Put_L0]
    unfold ref02_Put_L0.body
    rw [cond_pos (decide_eq_true (by omega)), innerL u acc _ ROUNDS _ 0 u (by omega) (by omega) (by omega) hu.1 hu.2 (by unfold ROUNDS; omega)]
    rw [show ((((m + 1 : Nat) : Int) - 1) - 0).toNat = m by omega]
    have hb : 0 ≤ u / 256 ^ m := Int.ediv_nonneg hu.1 (Int.pow_nonneg (by omega))
    have e : IntKind.wrap .u8 (Int.tmod (u / 256 ^ m) 256) = (u / 256 ^ m) % 256 := by
      rw [Int.tmod_eq_emod_of_nonneg hb, w8_eq]
      omega
    rw [e, ble_t (by simp; omega), cond_t, w64 (by omega) (by omega), show ((m + 1 : Nat) : Int) - 1 - 1 = (m : Int) - 1 by omega, outerL u hu K n m _ (by omega) (by simp; omega) (by omega)]
    rw [List.append_assoc]
    first | rfl | (simp [bts])
theorem rput_ {ns : List Int} (hl : ns.length ≤ 100000) (n w : Int) (k : List Int → Option Bool) : ref02_Put ns n w k = k (if w < 1 ∨ w > 8 then ns else ns ++ bts (u64 n) w.toNat) := by
  unfold ref02_Put ref02_Put.body
  rw [ble_t (by omega), cond_t]
  by_cases h1 : w < 1
  · rw [if_pos (.inl h1), cond_neg (not_f h1)]
  · by_cases h2 : w > 8
    · rw [if_pos (.inr h2), cond_pos (not_t h1), cond_pos (decide_eq_true h2)]
    · rw [if_neg (by omega), cond_pos (not_t h1), cond_neg (decide_eq_false h2), w64 (by omega) (by omega), wu64_eq]
      have := outerL (u64 n) (u64_lo n) (fun ns29 => k ns29) ROUNDS w.toNat ns (by omega) (by omega) (by unfold ROUNDS; omega)
      rw [show ((w.toNat : Nat) : Int) - 1 = w - 1 by omega] at this
      exact this
theorem fdiv_byte (n : Int) (m : Nat) (c : Int) (hc : c = 256 ^ m) (hm : m ≤ 7) : IntKind.wrap .u8 (Int.fdiv n c) = (u64 n / 256 ^ m) % 256 := by
  subst hc
  rw [w8_eq]
  have h0 : (0 : Int) ≤ 256 ^ m := Int.pow_nonneg (by omega)
  rw [Int.fdiv_eq_ediv_of_nonneg _ h0]
  unfold u64
  rcases m with _ | _ | _ | _ | _ | _ | _ | _ | m
  all_goals first | omega | (simp only [Nat.zero_add, Nat.reduceAdd, Int.reducePow] ; omega)
theorem putCells (ns : List Int) (n w : Int) (h1 : 1 ≤ w) (h2 : w ≤ 8) : List.take (Int.toNat (8 - (8 - w))) (List.drop (Int.toNat (8 - w)) ((IntKind.wrap .u8 (Int.fdiv n 72057594037927936)) :: (IntKind.wrap .u8 (Int.fdiv n 281474976710656)) :: (IntKind.wrap .u8 (Int.fdiv n 1099511627776)) :: (IntKind.wrap .u8 (Int.fdiv n 4294967296)) :: (IntKind.wrap .u8 (Int.fdiv n 16777216)) :: (IntKind.wrap .u8 (Int.fdiv n 65536)) :: (IntKind.wrap .u8 (Int.fdiv n 256)) :: (IntKind.wrap .u8 (Int.fdiv n 1)) :: [])) = bts (u64 n) w.toNat := by
  rw [fdiv_byte n 7 72057594037927936 rfl (by omega), fdiv_byte n 6 281474976710656 rfl (by omega), fdiv_byte n 5 1099511627776 rfl (by omega), fdiv_byte n 4 4294967296 rfl (by omega), fdiv_byte n 3 16777216 rfl (by omega), fdiv_byte n 2 65536 rfl (by omega), fdiv_byte n 1 256 rfl (by omega), fdiv_byte n 0 1 rfl (by omega)]
  have : w = 1 ∨ w = 2 ∨ w = 3 ∨ w = 4 ∨ w = 5 ∨ w = 6 ∨ w = 7 ∨ w = 8 := by omega
  rcases this with rfl | rfl | rfl | rfl | rfl | rfl | rfl | rfl <;> rfl
theorem w64_cong {a b : Int} (h : a % 18446744073709551616 = b % 18446744073709551616) : IntKind.wrap .i64 a = IntKind.wrap .i64 b := by
  rw [IntKind.wrap_i64, IntKind.wrap_i64]
  omega
theorem w64_mod (a : Int) : IntKind.wrap .i64 a % 18446744073709551616 = a % 18446744073709551616 := by
  rw [IntKind.wrap_i64]
  omega
theorem ofInt_nat (a : Int) : (BitVec.ofInt 64 a).toNat = (a % 18446744073709551616).toNat := by
  rw [BitVec.toNat_ofInt]
  rfl
theorem or_byte (U b : Int) (hb : 0 ≤ b ∧ b < 256) : IntKind.wrap .i64 (((BitVec.toNat ((BitVec.ofInt 64 (IntKind.wrap .i64 (IntKind.wrap .i64 U * 256))) ||| (BitVec.ofInt 64 (IntKind.wrap .i64 b)))) : Nat) : Int) = IntKind.wrap .i64 (U * 256 + b) := by
  apply w64_cong
  rw [BitVec.toNat_or, ofInt_nat, ofInt_nat, w64_mod, w64_mod]
  have e1 : (IntKind.wrap .i64 U * 256) % 18446744073709551616 = (U % 72057594037927936) * 256 := by
    have := w64_mod U
    omega
  have e2 : b % 18446744073709551616 = b := by omega
  rw [e1, e2]
  have e3 : ((U % 72057594037927936) * 256).toNat = (U % 72057594037927936).toNat <<< 8 := by
    rw [Nat.shiftLeft_eq]
    omega
  rw [e3, ← Nat.shiftLeft_add_eq_or_of_lt (by omega : b.toNat < 2 ^ 8), Nat.shiftLeft_eq]
  omega
/-- bytes as a number -/
def val (bs : List Int) : Int := bs.foldl (fun u b => u * 256 + b) 0
theorem val_snoc (bs : List Int) (b : Int) : val (bs ++ [b]) = val bs * 256 + b := by simp [val]
def bytesOk (ns : List Int) : Prop := ∀ x ∈ ns, 0 ≤ x ∧ x < 256
theorem cut_snoc {ns : List Int} {m i : Nat} (h : m + i < ns.length) : (ns.drop m).take (i + 1) = (ns.drop m).take i ++ [ns.getD (m + i) 0] := by
  rw [List.take_add_one]
  congr 1
  rw [List.getElem?_drop, List.getElem?_eq_getElem h, List.getD_eq_getElem?_getD, List.getElem?_eq_getElem h]
  rfl
theorem getD_ok {ns : List Int} (h : bytesOk ns) {i : Nat} (hi : i < ns.length) : 0 ≤ ns.getD i 0 ∧ ns.getD i 0 < 256 := by
  rw [List.getD_eq_getElem?_getD, List.getElem?_eq_getElem hi]
  exact h _ (List.getElem_mem _)
theorem val_lt {ns : List Int} (h : bytesOk ns) : ∀ (m i : Nat), m + i ≤ ns.length → 0 ≤ val ((ns.drop m).take i) ∧ val ((ns.drop m).take i) < 256 ^ i
  | m, 0, _ => by simp [val]
  | m, i + 1, hi => by
    have := val_lt h m i (by omega)
    have hb := getD_ok h (i := m + i) (by omega)
    rw [cut_snoc (by omega), val_snoc, Int.pow_succ]
    omega
theorem numL {ns : List Int} (h : bytesOk ns) (hl : ns.length ≤ 100000) {m l : Nat} (hm : m + l ≤ ns.length) (a : Int) (b c : Bool) (k : Int → Nat → Nat → Int → Bool → Bool → List Int → Option Bool) : ∀ (n i : Nat), i ≤ l → l - i < n →
    octet_number_L0v1 n (IntKind.wrap .i64 (val ((ns.drop m).take i))) m l m l ((l : Nat) : Int) ((i : Nat) : Int) a b c ns k = k (IntKind.wrap .i64 (val ((ns.drop m).take l))) m l a b c ns
  | 0, i, _, h2 => by omega
  | n + 1, i, h1, h2 => by
    rw [octet_number_L0v1]
    unfold octet_number_L0v1.body
    by_cases hi : i < l
    · have hb := getD_ok h (i := m + i) (by omega)
      rw [cond_pos (decide_eq_true (by omega)), cond_pos (by simp; omega), Int.toNat_natCast, or_byte _ _ hb, ← val_snoc, ← cut_snoc (by omega), w64 (n := (i : Int) + 1) (by omega) (by omega), show ((i : Nat) : Int) + 1 = ((i + 1 : Nat) : Int) by omega]
      exact numL h hl hm a b c k n (i + 1) (by omega) (by omega)
    · rw [cond_neg (decide_eq_false (by omega)), show i = l by omega]
theorem take_ {ns : List Int} (hl : ns.length ≤ 100000) {a : Int} (ha : 0 ≤ a ∧ a ≤ (ns.length : Int)) (w : Int) (bad : Bool) (k1 : Int → Bool → Bool → List Int → List Int → Option Bool) (k2 : Nat → Nat → Int → Bool → Bool → List Int → Option Bool) :
    octet_Reader_take w a true bad ns k1 k2 = if bad = true ∨ w < 0 ∨ w > (ns.length : Int) - a then k1 a true true ns [] else k2 a.toNat w.toNat (a + w) true bad ns := by
  unfold octet_Reader_take octet_Reader_take.body octet_Reader_Bad octet_Reader_Bad.body octet_Reader_Left octet_Reader_Left.body octet_Reader_spoil octet_Reader_spoil.body
  dsimp only
  rw [cond_pos (by rfl)]
  cases bad with
  | true => simp
  | false =>
    rw [cond_pos (by rfl)]
    by_cases h1 : w < 0
    · rw [cond_neg (not_f h1), if_pos (.inr (.inl h1))]
    · rw [cond_pos (not_t h1), w64 (n := (ns.length : Int) - a) (by omega) (by omega)]
      by_cases h2 : w > (ns.length : Int) - a
      · rw [cond_pos (decide_eq_true h2), if_pos (.inr (.inr h2))]
      · rw [cond_neg (decide_eq_false h2), if_neg (by simp; omega), w64 (n := a + w) (by omega) (by omega), w64 (n := a + w - w) (by omega) (by omega), cond_pos (by simp; omega)]
        rw [show a + w - w = a by omega, show a + w - a = w by omega]
theorem numNil (a : Int) (b c : Bool) (ns : List Int) (k : Int → Int → Bool → Bool → List Int → List Int → Option Bool) : octet_number_L0 ROUNDS 0 (([] : List Int).length : Int) 0 a b c ns [] k = k 0 a b c ns [] := by
  have e : octet_number_L0 ROUNDS = octet_number_L0 (1180591620717411303423 + 1) := rfl
  rw [e, octet_number_L0]
  simp [octet_number_L0.body]
theorem number_ {ns : List Int} (h : bytesOk ns) (hl : ns.length ≤ 100000) {a : Int} (ha : 0 ≤ a ∧ a ≤ (ns.length : Int)) (w : Int) (bad : Bool) (k1 : Int → Int → Bool → Bool → List Int → List Int → Option Bool) (k2 : Int → Nat → Nat → Int → Bool → Bool → List Int → Option Bool) :
    octet_number w a true bad ns k1 k2 = if bad = true ∨ w < 1 ∨ w > 8 ∨ w > (ns.length : Int) - a then k1 0 a true true ns [] else k2 (IntKind.wrap .i64 (val ((ns.drop a.toNat).take w.toNat))) a.toNat w.toNat (a + w) true bad ns := by
  unfold octet_number octet_number.body
  by_cases h1 : w < 1
  · rw [cond_neg (not_f h1), take_ hl ha, if_pos (by omega), if_pos (by omega), numNil]
  · rw [cond_pos (not_t h1)]
    by_cases h2 : w > 8
    · rw [cond_pos (decide_eq_true h2), take_ hl ha, if_pos (by omega), if_pos (by omega), numNil]
    · rw [cond_neg (decide_eq_false h2), take_ hl ha]
      by_cases h3 : bad = true ∨ w < 0 ∨ w > (ns.length : Int) - a
      · rw [if_pos h3, if_pos (by rcases h3 with h | h | h; exact .inl h; omega; exact .inr (.inr (.inr h))), numNil]
      · have h3' : ¬ (bad = true) := fun e => h3 (.inl e)
        rw [if_neg h3, if_neg (by rintro (h | h | h | h); exact h3' h; omega; omega; exact h3 (.inr (.inr h)))]
        have := numL h hl (m := a.toNat) (l := w.toNat) (by omega) (a + w) true bad (fun n168 m169 m170 n171 b172 b173 ns174 => k2 n168 m169 m170 n171 b172 b173 ns174) ROUNDS 0 (by omega) (by unfold ROUNDS; omega)
        rw [List.take_zero] at this
        exact this
theorem val_from : ∀ (bs : List Int) (u : Int), bs.foldl (fun u b => u * 256 + b) u = u * 256 ^ bs.length + val bs
  | [], u => by simp [val]
  | b :: r, u => by
    have e : val (b :: r) = b * 256 ^ r.length + val r := by
      show (b :: r).foldl (fun u b => u * 256 + b) 0 = _
      rw [List.foldl_cons, val_from r]
      simp
    rw [List.foldl_cons, val_from r, e, List.length_cons, Int.pow_succ, Int.add_mul, Int.mul_assoc, Int.mul_comm 256]
    omega
theorem val_first {ns : List Int} {m l : Nat} (h : m + (l + 1) ≤ ns.length) : val ((ns.drop m).take (l + 1)) = ns.getD m 0 * 256 ^ l + val ((ns.drop (m + 1)).take l) := by
  have hm : m < ns.length := by omega
  rw [List.drop_eq_getElem_cons hm, List.take_succ_cons, val, List.foldl_cons, val_from, List.length_take, List.length_drop, Nat.min_eq_left (by omega), List.getD_eq_getElem?_getD, List.getElem?_eq_getElem hm]
  simp
theorem pow8 : ∀ i : Nat, i ≤ 8 → (256 : Int) ^ i ≤ 18446744073709551616 := by
  intro i hi
  rcases i with _ | _ | _ | _ | _ | _ | _ | _ | _ | i
  all_goals first | omega | decide
abbrev Rd := List Int × Int × Bool × Unit
theorem rnumL {ns : List Int} (h : bytesOk ns) (hl : ns.length ≤ 100000) {a : Int} {w : Int} (ha : 0 ≤ a) (hw : w ≤ 8) (hm : a + w ≤ (ns.length : Int)) (s : Bool) (bad : Bool) (x : Int) (y : Bool) (k : Int → Bool → Int → Rd → Int → Bool → Option Bool) : ∀ (n i : Nat), (i : Int) ≤ w → (w - i).toNat < n →
    ref02_Num_L0 n w s (val ((ns.drop a.toNat).take i)) (i : Int) (ns, (a, (bad, ()))) x y k = k w s (val ((ns.drop a.toNat).take w.toNat)) (ns, (a, (bad, ()))) x y
  | 0, i, _, h2 => by omega
  | n + 1, i, h1, h2 => by
    rw [ref02_Num_L0]
    unfold ref02_Num_L0.body
    by_cases hi : (i : Int) < w
    · have hb := getD_ok h (i := a.toNat + i) (by omega)
      have hv := val_lt h a.toNat i (by omega)
      have hv2 := val_lt h a.toNat (i + 1) (by omega)
      have hp := pow8 (i + 1) (by omega)
      have e : (IntKind.wrap .i64 (a + (i : Int))) = a + (i : Int) := w64 (by omega) (by omega)
      have e2 : (a + (i : Int)).toNat = a.toNat + i := by omega
      rw [cut_snoc (by omega), val_snoc] at hv2
      dsimp only
      rw [cond_pos (decide_eq_true hi), e, e2, cond_pos (by simp; omega), wu64 (n := val ((ns.drop a.toNat).take i) * 256) (by omega) (by omega), wu64 (n := ns.getD (a.toNat + i) 0) (by omega) (by omega), wu64 (by omega) (by omega), ← val_snoc, ← cut_snoc (by omega), w64 (n := (i : Int) + 1) (by omega) (by omega), show ((i : Nat) : Int) + 1 = ((i + 1 : Nat) : Int) by omega]
      exact rnumL h hl ha hw hm s bad x y k n (i + 1) (by omega) (by omega)
    · rw [cond_neg (decide_eq_false hi), show w.toNat = i by omega]
theorem rtopL {w u : Int} (hw : w ≤ 7) (t : Rd) (x : Int) (y : Bool) (k : Int → Int → Int → Rd → Int → Bool → Option Bool) : ∀ (n i : Nat), (i : Int) ≤ w → (w - i).toNat < n → ref02_Num_L2 n w u (256 ^ i) (i : Int) t x y k = k w u (256 ^ w.toNat) t x y
  | 0, i, _, h2 => by omega
  | n + 1, i, h1, h2 => by
    rw [ref02_Num_L2]
    unfold ref02_Num_L2.body
    by_cases hi : (i : Int) < w
    · have hp : (256 : Int) ^ (i + 1) ≤ 72057594037927936 := by
        have : i ≤ 6 := by omega
        rcases i with _ | _ | _ | _ | _ | _ | _ | i
        all_goals first | omega | decide
      have hp0 : (0 : Int) ≤ 256 ^ (i + 1) := Int.pow_nonneg (by omega)
      rw [cond_pos (decide_eq_true hi), ← Int.pow_succ, wu64 hp0 (by omega), w64 (n := (i : Int) + 1) (by omega) (by omega), show ((i : Nat) : Int) + 1 = ((i + 1 : Nat) : Int) by omega]
      exact rtopL hw t x y k n (i + 1) (by omega) (by omega)
    · rw [cond_neg (decide_eq_false hi), show w.toNat = i by omega]
def sgn (ns : List Int) (a w : Int) : Int := if w < 8 ∧ 128 ≤ ns.getD a.toNat 0 then val ((ns.drop a.toNat).take w.toNat) - 256 ^ w.toNat else IntKind.wrap .i64 (val ((ns.drop a.toNat).take w.toNat))
theorem rnum_ {ns : List Int} (h : bytesOk ns) (hl : ns.length ≤ 100000) {a : Int} (ha : 0 ≤ a ∧ a ≤ (ns.length : Int)) (w : Int) (s bad : Bool) (k : Rd → Int → Option Bool) :
    ref02_Num (ns, (a, (bad, ()))) w s k = if bad = true ∨ w < 1 ∨ w > 8 ∨ w > (ns.length : Int) - a then k (ns, (a, (true, ()))) 0 else k (ns, (a + w, (bad, ()))) (if s = true then sgn ns a w else IntKind.wrap .i64 (val ((ns.drop a.toNat).take w.toNat))) := by
  unfold ref02_Num ref02_Num.body
  dsimp only
  cases bad with
  | true => simp
  | false =>
    rw [cond_pos (by rfl)]
    by_cases h1 : w < 1
    · rw [cond_neg (not_f h1), if_pos (.inr (.inl h1))]
    · rw [cond_pos (not_t h1)]
      by_cases h2 : w > 8
      · rw [cond_neg (not_f h2), if_pos (.inr (.inr (.inl h2)))]
      · rw [cond_pos (not_t h2), w64 (n := (ns.length : Int) - a) (by omega) (by omega)]
        by_cases h3 : w > (ns.length : Int) - a
        · rw [cond_pos (decide_eq_true h3), if_pos (.inr (.inr (.inr h3)))]
        · rw [cond_neg (decide_eq_false h3), if_neg (by simp; omega)]
          have hL := fun k => rnumL h hl (a := a) (w := w) ha.1 (by omega) (by omega) s false 0 false k ROUNDS 0 (by omega) (by unfold ROUNDS; omega)
          rw [List.take_zero] at hL
          have hL' := fun k => hL k
          refine (hL' _).trans ?_
          dsimp only
          rw [w64 (n := a + w) (by omega) (by omega)]
          cases s with
          | false => rfl
          | true =>
            rw [cond_pos rfl, if_pos rfl]
            unfold sgn
            by_cases h4 : w < 8
            · rw [cond_pos (decide_eq_true h4), cond_pos (by simp; omega)]
              by_cases h5 : 128 ≤ ns.getD a.toNat 0
              · rw [cond_pos (decide_eq_true h5), if_pos ⟨h4, h5⟩]
                have hv := val_lt h a.toNat w.toNat (by omega)
                have hp : (256 : Int) ^ w.toNat ≤ 72057594037927936 := by
                  have : w.toNat ≤ 7 := by omega
                  generalize w.toNat = j at this
                  rcases j with _ | _ | _ | _ | _ | _ | _ | _ | j
                  all_goals first | omega | decide
                have hT := rtopL (w := w) (u := val ((ns.drop a.toNat).take w.toNat)) (by omega) (ns, (a, (false, ()))) 0 false (fun n324 n325 n326 t327 n328 b329 => k (t327.1, (IntKind.wrap .i64 (t327.2.1 + n324), (t327.2.2.1, ()))) (IntKind.wrap .i64 (IntKind.wrap .u64 (n325 - n326)))) ROUNDS 0 (by omega) (by unfold ROUNDS; omega)
                refine hT.trans ?_
                dsimp only
                rw [w64 (n := a + w) (by omega) (by omega), wu64_eq]
                unfold u64
                congr 1
                rw [IntKind.wrap_i64]
                omega
              · rw [cond_neg (decide_eq_false h5), if_neg (fun h => h5 h.2)]
            · rw [cond_neg (decide_eq_false h4), if_neg (fun h => h4 h.1)]
theorem shl_ (V b0 R : Int) : ∀ w : Nat, 1 ≤ w → w ≤ 8 → V = b0 * 256 ^ (w - 1) + R → 0 ≤ R → R < 256 ^ (w - 1) → 0 ≤ b0 → b0 < 256 →
    Int.fdiv (IntKind.wrap .i64 (IntKind.wrap .i64 V * 2 ^ (8 * (8 - w)))) (2 ^ (8 * (8 - w))) = if w < 8 ∧ 128 ≤ b0 then V - 256 ^ w else IntKind.wrap .i64 V := by
  intro w h1 h2 hV hR0 hR1 hb0 hb1
  rw [Int.fdiv_eq_ediv_of_nonneg _ (Int.pow_nonneg (by omega)), IntKind.wrap_i64, IntKind.wrap_i64]
  rcases w with _ | _ | _ | _ | _ | _ | _ | _ | _ | w
  · omega
  all_goals first | omega | skip
  all_goals
    simp only [Nat.reduceAdd, Nat.reduceSub, Nat.reduceMul, Int.reducePow, Nat.zero_add, Int.pow_zero, Int.mul_one] at *
    split <;> omega
theorem num_ {ns : List Int} (h : bytesOk ns) (hl : ns.length ≤ 100000) {a : Int} (ha : 0 ≤ a ∧ a ≤ (ns.length : Int)) (w : Int) (bad : Bool) (k : Int → Int → Bool → Bool → List Int → Option Bool) :
    octet_Reader_Num w a true bad ns k = if bad = true ∨ w < 1 ∨ w > 8 ∨ w > (ns.length : Int) - a then k 0 a true true ns else k (IntKind.wrap .i64 (val ((ns.drop a.toNat).take w.toNat))) (a + w) true bad ns := by
  unfold octet_Reader_Num octet_Reader_Num.body
  rw [number_ h hl ha]
theorem octet_Put_ {ns : List Int} (hl : ns.length ≤ 100000) (n w : Int) (k : List Int → Option Bool) : octet_Put ns n w k = k (if w < 1 ∨ w > 8 then ns else ns ++ bts (u64 n) w.toNat) := by
  unfold octet_Put octet_Put.body
  rw [ble_t (by omega), cond_t]
  by_cases h1 : w < 1
  · rw [if_pos (.inl h1), cond_neg (not_f h1)]; rfl
  · by_cases h2 : w > 8
    · rw [if_pos (.inr h2), cond_pos (not_t h1), cond_pos (decide_eq_true h2)]; rfl
    · rw [if_neg (by omega), cond_pos (not_t h1), cond_neg (decide_eq_false h2), w64 (n := 8 - w) (by omega) (by omega), cond_pos (by simp; omega), putCells ns n w (by omega) (by omega), ble_t (by rw [bts_len]; simp; omega), cond_t]
      rfl
theorem octet_Putv1_ {ns : List Int} (hl : ns.length ≤ 100000) (n w : Int) (k : List Int → Option Bool) : octet_Putv1 ns n w k = k (if w < 1 ∨ w > 8 then ns else ns ++ bts (u64 n) w.toNat) := by
  unfold octet_Putv1 octet_Putv1.body
  rw [ble_t (by omega), cond_t]
  by_cases h1 : w < 1
  · rw [if_pos (.inl h1), cond_neg (not_f h1)]; rfl
  · by_cases h2 : w > 8
    · rw [if_pos (.inr h2), cond_pos (not_t h1), cond_pos (decide_eq_true h2)]; rfl
    · rw [if_neg (by omega), cond_pos (not_t h1), cond_neg (decide_eq_false h2), w64 (n := 8 - w) (by omega) (by omega), cond_pos (by simp; omega), putCells ns n w (by omega) (by omega), ble_t (by rw [bts_len]; simp; omega), cond_t]
      rfl
theorem F_a_ (u : Int) (ns : List Int) (K : Int → Int → Int → List Int → Option Bool) : ∀ (n : Nat) (i k x : Int), 0 ≤ k → k ≤ i → i ≤ 8 → 0 ≤ x → x < 18446744073709551616 → (i - k).toNat < n → ref02_Putv1_L0_L2 n u i x k ns K = K u i (x / 256 ^ (i - k).toNat) ns
  | 0, i, k, x, _, _, _, _, _, h => by omega
  | n + 1, i, k, x, h0, h1, h2, h3, h4, h5 => by
    rw [ref02_Putv1_L0_L2]
    unfold ref02_Putv1_L0_L2.body
    by_cases h : k < i
    · have e : IntKind.wrap .u64 (Int.tdiv x 256) = x / 256 := by
        rw [Int.tdiv_eq_ediv_of_nonneg h3, wu64 (by omega) (by omega)]
      rw [cond_pos (by simpa using h), e, w64 (by omega) (by omega), F_a_ u ns K n i (k + 1) (x / 256) (by omega) (by omega) h2 (by omega) (by omega) (by omega)]
      congr 1
      rw [show (i - k).toNat = (i - (k + 1)).toNat + 1 by omega, Int.pow_succ, Int.mul_comm, Int.ediv_ediv_of_nonneg (by omega)]
    · rw [cond_neg (by simpa using h)]
      rw [show (i - k).toNat = 0 by omega]
      simp
theorem F_b_ (u : Int) (hu : 0 ≤ u ∧ u < 18446744073709551616) (K : List Int → Option Bool) : ∀ (n : Nat) (m : Nat) (acc : List Int), m ≤ 8 → acc.length ≤ 4194304 - m → m < n → ref02_Putv1_L0 n u ((m : Int) - 1) acc K = K (acc ++ bts u m)
  | 0, m, acc, _, _, h => by omega
  | n + 1, 0, acc, _, _, h => by
    rw [ref02_Putv1_L0]
    unfold ref02_Putv1_L0.body
    rw [cond_neg (by simp)]
    simp [bts]
  | n + 1, m + 1, acc, h1, h2, h3 => by
    rw [ref02_Putv1_L0]
    unfold ref02_Putv1_L0.body
    rw [cond_pos (decide_eq_true (by omega)), F_a_ u acc _ ROUNDS _ 0 u (by omega) (by omega) (by omega) hu.1 hu.2 (by unfold ROUNDS; omega)]
    rw [show ((((m + 1 : Nat) : Int) - 1) - 0).toNat = m by omega]
    have hb : 0 ≤ u / 256 ^ m := Int.ediv_nonneg hu.1 (Int.pow_nonneg (by omega))
    have e : IntKind.wrap .u8 (Int.tmod (u / 256 ^ m) 256) = (u / 256 ^ m) % 256 := by
      rw [Int.tmod_eq_emod_of_nonneg hb, w8_eq]
      omega
    rw [e, ble_t (by simp; omega), cond_t, w64 (by omega) (by omega), show ((m + 1 : Nat) : Int) - 1 - 1 = (m : Int) - 1 by omega, F_b_ u hu K n m _ (by omega) (by simp; omega) (by omega)]
    rw [List.append_assoc]
    first | rfl | (simp [bts])
theorem ref02_Putv1_ {ns : List Int} (hl : ns.length ≤ 100000) (n w : Int) (k : List Int → Option Bool) : ref02_Putv1 ns n w k = k (if w < 1 ∨ w > 8 then ns else ns ++ bts (u64 n) w.toNat) := by
  unfold ref02_Putv1 ref02_Putv1.body
  rw [ble_t (by omega), cond_t]
  by_cases h1 : w < 1
  · rw [if_pos (.inl h1), cond_neg (not_f h1)]
  · by_cases h2 : w > 8
    · rw [if_pos (.inr h2), cond_pos (not_t h1), cond_pos (decide_eq_true h2)]
    · rw [if_neg (by omega), cond_pos (not_t h1), cond_neg (decide_eq_false h2), w64 (by omega) (by omega), wu64_eq]
      have := F_b_ (u64 n) (u64_lo n) (fun ns29 => k ns29) ROUNDS w.toNat ns (by omega) (by omega) (by unfold ROUNDS; omega)
      rw [show ((w.toNat : Nat) : Int) - 1 = w - 1 by omega] at this
      exact this
theorem seqt {a b : ByteArray} (h : a = b) : (a.toList == b.toList) = true := by rw [h]; exact beq_self_eq_true _
theorem seqf {a b : ByteArray} (h : a ≠ b) : (a.toList == b.toList) = false := by
  rw [ByteArray.toList_eq, ByteArray.toList_eq, beq_eq_false_iff_ne]
  intro he
  apply h
  cases a with | mk a =>
  cases b with | mk b =>
  exact congrArg ByteArray.mk (Array.toList_inj.1 he)
theorem bytes_inj : ∀ {a b : List Int}, (∀ x ∈ a, 0 ≤ x ∧ x < 256) → (∀ x ∈ b, 0 ≤ x ∧ x < 256) → a.map (fun n => UInt8.ofNat n.toNat) = b.map (fun n => UInt8.ofNat n.toNat) → a = b
  | [], [], _, _, _ => rfl
  | [], _ :: _, _, _, h => by simp at h
  | _ :: _, [], _, _, h => by simp at h
  | x :: a, y :: b, ha, hb, h => by
    simp only [List.map_cons, List.cons.injEq] at h
    obtain ⟨h1, h2⟩ := h
    have hx := ha x List.mem_cons_self
    have hy := hb y List.mem_cons_self
    have e : x = y := by
      have := congrArg UInt8.toNat h1
      simp only [UInt8.toNat_ofNat'] at this
      omega
    rw [e, bytes_inj (fun z hz => ha z (List.mem_cons_of_mem _ hz)) (fun z hz => hb z (List.mem_cons_of_mem _ hz)) h2]
theorem strOf_inj {a b : List Int} (ha : ∀ x ∈ a, 0 ≤ x ∧ x < 256) (hb : ∀ x ∈ b, 0 ≤ x ∧ x < 256) (h : strOf a = strOf b) : a = b := by
  refine bytes_inj ha hb ?_
  have h := congrArg (fun s : ByteArray => s.data.toList) h
  simpa [strOf] using h
/-- a reader's step: the number, where it is then, whether it is bad -/
def rd (ns : List Int) (w : Int) (a : Int) (bad : Bool) : Int × Int × Bool := if bad = true ∨ w < 1 ∨ w > 8 ∨ w > (ns.length : Int) - a then (0, a, true) else (IntKind.wrap .i64 (val ((ns.drop a.toNat).take w.toNat)), a + w, bad)
theorem rd_at {ns : List Int} {w a : Int} {bad : Bool} (ha : 0 ≤ a ∧ a ≤ (ns.length : Int)) : 0 ≤ (rd ns w a bad).2.1 ∧ (rd ns w a bad).2.1 ≤ (ns.length : Int) := by
  unfold rd
  split
  · exact ha
  · rename_i h
    have h2 : ¬ (w < 1) := fun g => h (.inr (.inl g))
    have h3 : ¬ (w > (ns.length : Int) - a) := fun g => h (.inr (.inr (.inr g)))
    dsimp only
    omega
theorem rd_lt {ns : List Int} (hb : bytesOk ns) {w a : Int} {bad : Bool} (ha : 0 ≤ a ∧ a ≤ (ns.length : Int)) (hw : w ≤ 7) : 0 ≤ (rd ns w a bad).1 ∧ (rd ns w a bad).1 < 256 ^ w.toNat := by
  unfold rd
  split
  · exact ⟨Int.le_refl _, Int.pow_pos (by omega)⟩
  · rename_i h
    have h2 : ¬ (w < 1) := fun g => h (.inr (.inl g))
    have h3 : ¬ (w > (ns.length : Int) - a) := fun g => h (.inr (.inr (.inr g)))
    have hv := val_lt hb a.toNat w.toNat (by omega)
    have hp : (256 : Int) ^ w.toNat ≤ 72057594037927936 := by
      have : w.toNat ≤ 7 := by omega
      generalize w.toNat = j at this
      rcases j with _ | _ | _ | _ | _ | _ | _ | _ | j
      all_goals first | omega | decide
    dsimp only
    rw [w64 (by omega) (by omega)]
    exact hv
theorem rd_num {ns : List Int} (h : bytesOk ns) (hl : ns.length ≤ 100000) {a : Int} (ha : 0 ≤ a ∧ a ≤ (ns.length : Int)) (w : Int) (bad : Bool) (k : Int → Int → Bool → Bool → List Int → Option Bool) :
    octet_Reader_Num w a true bad ns k = k (rd ns w a bad).1 (rd ns w a bad).2.1 true (rd ns w a bad).2.2 ns := by
  rw [num_ h hl ha]
  unfold rd
  split <;> rfl
theorem rd_rnum {ns : List Int} (h : bytesOk ns) (hl : ns.length ≤ 100000) {a : Int} (ha : 0 ≤ a ∧ a ≤ (ns.length : Int)) (w : Int) (bad : Bool) (k : Rd → Int → Option Bool) :
    ref02_Num (ns, (a, (bad, ()))) w false k = k (ns, ((rd ns w a bad).2.1, ((rd ns w a bad).2.2, ()))) (rd ns w a bad).1 := by
  rw [rnum_ h hl ha]
  unfold rd
  split <;> rfl
abbrev Rl := Int × Int × Bool × Unit
abbrev Dt := Int × List Int × List Rl × Unit
theorem few_ (d : Dt) (k : Bool → Option Bool) : ref15_Few d k = k (decide (d.2.1.length ≤ 100 ∧ d.2.2.1.length ≤ 100)) := by
  unfold ref15_Few ref15_Few.body
  by_cases h1 : d.2.1.length ≤ 100
  · by_cases h2 : d.2.2.1.length ≤ 100
    · simp (disch := first | omega | (simp only [List.length_append, List.length_cons, List.length_nil, List.length_set, List.length_take, List.length_drop, List.length_replicate]; omega) | fail) only [cond_t, cond_f, dt, df, w64, wu64, w8, ble_t, ble_f, ieqt, ieqf, inet, inef, Bool.not_true, Bool.not_false, Bool.true_and, Bool.and_true, Bool.false_and, Bool.and_false, Bool.not_not, dTrue, dFalse, Int.toNat_natCast, List.length_append, List.length_cons, List.length_nil, meet_self]
    · simp (disch := first | omega | (simp only [List.length_append, List.length_cons, List.length_nil, List.length_set, List.length_take, List.length_drop, List.length_replicate]; omega) | fail) only [cond_t, cond_f, dt, df, w64, wu64, w8, ble_t, ble_f, ieqt, ieqf, inet, inef, Bool.not_true, Bool.not_false, Bool.true_and, Bool.and_true, Bool.false_and, Bool.and_false, Bool.not_not, dTrue, dFalse, Int.toNat_natCast, List.length_append, List.length_cons, List.length_nil, meet_self]
  · simp (disch := first | omega | (simp only [List.length_append, List.length_cons, List.length_nil, List.length_set, List.length_take, List.length_drop, List.length_replicate]; omega) | fail) only [cond_t, cond_f, dt, df, w64, wu64, w8, ble_t, ble_f, ieqt, ieqf, inet, inef, Bool.not_true, Bool.not_false, Bool.true_and, Bool.and_true, Bool.false_and, Bool.and_false, Bool.not_not, dTrue, dFalse, Int.toNat_natCast, List.length_append, List.length_cons, List.length_nil, meet_self]
/-- numbers, one after another -/
def numsS (ns : List Int) : List Int → Int → Bool → List Int × Int × Bool
  | [], a, bad => ([], a, bad)
  | w :: r, a, bad => ((rd ns w a bad).1 :: (numsS ns r (rd ns w a bad).2.1 (rd ns w a bad).2.2).1, (numsS ns r (rd ns w a bad).2.1 (rd ns w a bad).2.2).2)
theorem numsL {ns : List Int} (h : bytesOk ns) (hl : ns.length ≤ 100000) (z : Int) (y : Bool) (ws : List Int) (hw : ws.length ≤ 100) (k : Rd → Int → Bool → List Int → Option Bool) : ∀ (n i : Nat) (a : Int) (bad : Bool) (out : List Int), i ≤ ws.length → ws.length - i < n → 0 ≤ a ∧ a ≤ (ns.length : Int) → out.length ≤ i →
    ref13_Nums_L0 n ws (i : Int) (ns, (a, (bad, ()))) z y out k = k (ns, ((numsS ns (ws.drop i) a bad).2.1, ((numsS ns (ws.drop i) a bad).2.2, ()))) z y (out ++ (numsS ns (ws.drop i) a bad).1)
  | 0, i, a, bad, out, _, g, _, _ => by omega
  | n + 1, i, a, bad, out, h0, h1, ha, ho => by
    rw [ref13_Nums_L0]
    unfold ref13_Nums_L0.body
    by_cases hi : i < ws.length
    · have e : ws.drop i = ws.getD i 0 :: ws.drop (i + 1) := by
        rw [List.drop_eq_getElem_cons hi, List.getD_eq_getElem?_getD, List.getElem?_eq_getElem hi]
        rfl
      rw [e]
      simp (disch := first | omega | (simp only [List.length_append, List.length_cons, List.length_nil, List.length_set, List.length_take, List.length_drop, List.length_replicate]; omega) | fail) only [cond_t, cond_f, dt, df, w64, wu64, w8, ble_t, ble_f, ieqt, ieqf, inet, inef, Bool.not_true, Bool.not_false, Bool.true_and, Bool.and_true, Bool.false_and, Bool.and_false, Bool.not_not, dTrue, dFalse, Int.toNat_natCast, List.length_append, List.length_cons, List.length_nil, meet_self]
      rw [rd_rnum h hl ha]
      have ih := numsL h hl z y ws hw k n (i + 1) (rd ns (ws.getD i 0) a bad).2.1 (rd ns (ws.getD i 0) a bad).2.2 (out ++ [(rd ns (ws.getD i 0) a bad).1]) (by omega) (by omega) (rd_at ha) (by simp; omega)
      try simp (disch := first | omega | (simp only [List.length_append, List.length_cons, List.length_nil, List.length_set, List.length_take, List.length_drop, List.length_replicate]; omega) | fail) only [cond_t, cond_f, dt, df, w64, wu64, w8, ble_t, ble_f, ieqt, ieqf, inet, inef, Bool.not_true, Bool.not_false, Bool.true_and, Bool.and_true, Bool.false_and, Bool.and_false, Bool.not_not, dTrue, dFalse, Int.toNat_natCast, List.length_append, List.length_cons, List.length_nil, meet_self]
      rw [numsS]
      rw [List.append_assoc] at ih
      exact ih
    · rw [List.drop_of_length_le (by omega), numsS, List.append_nil]
      simp (disch := first | omega | (simp only [List.length_append, List.length_cons, List.length_nil, List.length_set, List.length_take, List.length_drop, List.length_replicate]; omega) | fail) only [cond_t, cond_f, dt, df, w64, wu64, w8, ble_t, ble_f, ieqt, ieqf, inet, inef, Bool.not_true, Bool.not_false, Bool.true_and, Bool.and_true, Bool.false_and, Bool.and_false, Bool.not_not, dTrue, dFalse, Int.toNat_natCast, List.length_append, List.length_cons, List.length_nil, meet_self]
theorem nums_ {ns : List Int} (h : bytesOk ns) (hl : ns.length ≤ 100000) (ws : List Int) (hw : ws.length ≤ 100) {a : Int} (ha : 0 ≤ a ∧ a ≤ (ns.length : Int)) (bad : Bool) (k : Rd → List Int → Option Bool) :
    ref13_Nums (ns, (a, (bad, ()))) ws k = k (ns, ((numsS ns ws a bad).2.1, ((numsS ns ws a bad).2.2, ()))) (numsS ns ws a bad).1 := by
  unfold ref13_Nums ref13_Nums.body
  exact numsL h hl 0 false ws hw _ ROUNDS 0 a bad [] (by omega) (by unfold ROUNDS; omega) ha (by simp)
def fl (b : Bool) : Int := if b = true then 1 else 0
theorem flag_ (b : Bool) (k : Int → Option Bool) : data_flag b k = k (fl b) := by cases b <;> rfl
def encR1 (x : Rl) : List Int := bts (u64 x.1) 1 ++ bts (u64 x.2.1) 1 ++ bts (u64 (fl x.2.2.1)) 1
def encW (ws : List Int) : Nat → List Int
  | 0 => []
  | i + 1 => encW ws i ++ bts (u64 (ws.getD i 0)) 8
def encR (rs : List Rl) : Nat → List Int
  | 0 => []
  | i + 1 => encR rs i ++ encR1 (rs.getD i ((0 : Int), ((0 : Int), (false, ()))))
theorem encW_len (ws : List Int) : ∀ i, (encW ws i).length = 8 * i
  | 0 => rfl
  | i + 1 => by rw [encW, List.length_append, encW_len ws i, bts_len]; omega
theorem encR_len (rs : List Rl) : ∀ i, (encR rs i).length = 3 * i
  | 0 => rfl
  | i + 1 => by rw [encR, List.length_append, encR_len rs i]; unfold encR1; simp only [List.length_append, bts_len]; omega
def encD (kd : Int) (ws : List Int) (rs : List Rl) : List Int := bts (u64 kd) 1 ++ bts (u64 (ws.length : Int)) 1 ++ encW ws ws.length ++ bts (u64 (rs.length : Int)) 1 ++ encR rs rs.length
theorem b1 (u : Int) : (bts u 1).length = 1 := bts_len u 1
theorem b8 (u : Int) : (bts u 8).length = 8 := bts_len u 8
theorem p1 {ns : List Int} (hl : ns.length ≤ 100000) (n : Int) (k : List Int → Option Bool) : octet_Putv1 ns n 1 k = k (ns ++ bts (u64 n) 1) := octet_Putv1_ hl n 1 k
theorem p8 {ns : List Int} (hl : ns.length ≤ 100000) (n : Int) (k : List Int → Option Bool) : octet_Putv1 ns n 8 k = k (ns ++ bts (u64 n) 8) := octet_Putv1_ hl n 8 k
theorem data_Put_L0_ (ws : List Int) (hl : ws.length ≤ 200) (ns : List Int) (hn : ns.length ≤ 2000) (d : Dt) (k : List Int → Dt → Option Bool) : ∀ (n i : Nat), i ≤ ws.length → ws.length - i < n → data_Put_L0 n ws (ws.length : Int) (i : Int) (ns ++ encW ws i) d k = k (ns ++ encW ws ws.length) d
  | 0, i, _, h => by omega
  | n + 1, i, h0, h1 => by
    rw [data_Put_L0]
    unfold data_Put_L0.body
    have he := encW_len ws i
    by_cases h : i < ws.length
    · simp (disch := first | omega | (simp only [List.length_append, List.length_cons, List.length_nil, List.length_set, List.length_take, List.length_drop, List.length_replicate]; omega) | fail) only [cond_t, cond_f, dt, df, w64, wu64, w8, ble_t, ble_f, ieqt, ieqf, inet, inef, Bool.not_true, Bool.not_false, Bool.true_and, Bool.and_true, Bool.false_and, Bool.and_false, Bool.not_not, dTrue, dFalse, Int.toNat_natCast, List.length_append, List.length_cons, List.length_nil, meet_self]
      rw [p8 (by rw [List.length_append]; omega)]
      have ih := data_Put_L0_ ws hl ns hn d k n (i + 1) (by omega) (by omega)
      rw [encW, ← List.append_assoc] at ih
      exact ih
    · obtain rfl : i = ws.length := by omega
      simp (disch := first | omega | (simp only [List.length_append, List.length_cons, List.length_nil, List.length_set, List.length_take, List.length_drop, List.length_replicate]; omega) | fail) only [cond_t, cond_f, dt, df, w64, wu64, w8, ble_t, ble_f, ieqt, ieqf, inet, inef, Bool.not_true, Bool.not_false, Bool.true_and, Bool.and_true, Bool.false_and, Bool.and_false, Bool.not_not, dTrue, dFalse, Int.toNat_natCast, List.length_append, List.length_cons, List.length_nil, meet_self]
theorem data_Putv1_L0_ (ws : List Int) (hl : ws.length ≤ 200) (ns : List Int) (hn : ns.length ≤ 2000) (d : Dt) (k : List Int → Dt → Option Bool) : ∀ (n i : Nat), i ≤ ws.length → ws.length - i < n → data_Putv1_L0 n ws (ws.length : Int) (i : Int) (ns ++ encW ws i) d k = k (ns ++ encW ws ws.length) d
  | 0, i, _, h => by omega
  | n + 1, i, h0, h1 => by
    rw [data_Putv1_L0]
    unfold data_Putv1_L0.body
    have he := encW_len ws i
    by_cases h : i < ws.length
    · simp (disch := first | omega | (simp only [List.length_append, List.length_cons, List.length_nil, List.length_set, List.length_take, List.length_drop, List.length_replicate]; omega) | fail) only [cond_t, cond_f, dt, df, w64, wu64, w8, ble_t, ble_f, ieqt, ieqf, inet, inef, Bool.not_true, Bool.not_false, Bool.true_and, Bool.and_true, Bool.false_and, Bool.and_false, Bool.not_not, dTrue, dFalse, Int.toNat_natCast, List.length_append, List.length_cons, List.length_nil, meet_self]
      rw [p8 (by rw [List.length_append]; omega)]
      have ih := data_Putv1_L0_ ws hl ns hn d k n (i + 1) (by omega) (by omega)
      rw [encW, ← List.append_assoc] at ih
      exact ih
    · obtain rfl : i = ws.length := by omega
      simp (disch := first | omega | (simp only [List.length_append, List.length_cons, List.length_nil, List.length_set, List.length_take, List.length_drop, List.length_replicate]; omega) | fail) only [cond_t, cond_f, dt, df, w64, wu64, w8, ble_t, ble_f, ieqt, ieqf, inet, inef, Bool.not_true, Bool.not_false, Bool.true_and, Bool.and_true, Bool.false_and, Bool.and_false, Bool.not_not, dTrue, dFalse, Int.toNat_natCast, List.length_append, List.length_cons, List.length_nil, meet_self]
theorem data_Put_L2_ (rs : List Rl) (hl : rs.length ≤ 200) (ns : List Int) (hn : ns.length ≤ 5000) (k : List Int → Option Bool) : ∀ (n i : Nat), i ≤ rs.length → rs.length - i < n → data_Put_L2 n rs (rs.length : Int) (i : Int) (ns ++ encR rs i) k = k (ns ++ encR rs rs.length)
  | 0, i, _, h => by omega
  | n + 1, i, h0, h1 => by
    rw [data_Put_L2]
    unfold data_Put_L2.body
    have he := encR_len rs i
    by_cases h : i < rs.length
    · simp (disch := first | omega | (simp only [List.length_append, List.length_cons, List.length_nil, List.length_set, List.length_take, List.length_drop, List.length_replicate]; omega) | fail) only [cond_t, cond_f, dt, df, w64, wu64, w8, ble_t, ble_f, ieqt, ieqf, inet, inef, Bool.not_true, Bool.not_false, Bool.true_and, Bool.and_true, Bool.false_and, Bool.and_false, Bool.not_not, dTrue, dFalse, Int.toNat_natCast, List.length_append, List.length_cons, List.length_nil, meet_self]
      rw [p1 (by rw [List.length_append]; omega), p1 (by simp only [List.length_append, b1]; omega), flag_, p1 (by simp only [List.length_append, b1]; omega)]
      have ih := data_Put_L2_ rs hl ns hn k n (i + 1) (by omega) (by omega)
      rw [encR, encR1] at ih
      simp only [← List.append_assoc] at ih
      exact ih
    · obtain rfl : i = rs.length := by omega
      simp (disch := first | omega | (simp only [List.length_append, List.length_cons, List.length_nil, List.length_set, List.length_take, List.length_drop, List.length_replicate]; omega) | fail) only [cond_t, cond_f, dt, df, w64, wu64, w8, ble_t, ble_f, ieqt, ieqf, inet, inef, Bool.not_true, Bool.not_false, Bool.true_and, Bool.and_true, Bool.false_and, Bool.and_false, Bool.not_not, dTrue, dFalse, Int.toNat_natCast, List.length_append, List.length_cons, List.length_nil, meet_self]
theorem data_Putv1_L2_ (rs : List Rl) (hl : rs.length ≤ 200) (ns : List Int) (hn : ns.length ≤ 5000) (k : List Int → Option Bool) : ∀ (n i : Nat), i ≤ rs.length → rs.length - i < n → data_Putv1_L2 n rs (rs.length : Int) (i : Int) (ns ++ encR rs i) k = k (ns ++ encR rs rs.length)
  | 0, i, _, h => by omega
  | n + 1, i, h0, h1 => by
    rw [data_Putv1_L2]
    unfold data_Putv1_L2.body
    have he := encR_len rs i
    by_cases h : i < rs.length
    · simp (disch := first | omega | (simp only [List.length_append, List.length_cons, List.length_nil, List.length_set, List.length_take, List.length_drop, List.length_replicate]; omega) | fail) only [cond_t, cond_f, dt, df, w64, wu64, w8, ble_t, ble_f, ieqt, ieqf, inet, inef, Bool.not_true, Bool.not_false, Bool.true_and, Bool.and_true, Bool.false_and, Bool.and_false, Bool.not_not, dTrue, dFalse, Int.toNat_natCast, List.length_append, List.length_cons, List.length_nil, meet_self]
      rw [p1 (by rw [List.length_append]; omega), p1 (by simp only [List.length_append, b1]; omega), flag_, p1 (by simp only [List.length_append, b1]; omega)]
      have ih := data_Putv1_L2_ rs hl ns hn k n (i + 1) (by omega) (by omega)
      rw [encR, encR1] at ih
      simp only [← List.append_assoc] at ih
      exact ih
    · obtain rfl : i = rs.length := by omega
      simp (disch := first | omega | (simp only [List.length_append, List.length_cons, List.length_nil, List.length_set, List.length_take, List.length_drop, List.length_replicate]; omega) | fail) only [cond_t, cond_f, dt, df, w64, wu64, w8, ble_t, ble_f, ieqt, ieqf, inet, inef, Bool.not_true, Bool.not_false, Bool.true_and, Bool.and_true, Bool.false_and, Bool.and_false, Bool.not_not, dTrue, dFalse, Int.toNat_natCast, List.length_append, List.length_cons, List.length_nil, meet_self]
theorem dput_ (kd : Int) (ws : List Int) (rs : List Rl) (hw : ws.length ≤ 200) (hr : rs.length ≤ 200) (ns : List Int) (hn : ns.length ≤ 1000) (k : List Int → Option Bool) : data_Put ns (kd, ws, rs, ()) k = k (ns ++ encD kd ws rs) := by
  unfold data_Put data_Put.body
  have he := encW_len ws ws.length
  have g1 : (1 : Int).toNat = 1 := rfl
  rw [octet_Put_ (by omega), if_neg (by omega), g1, p1 (by simp only [List.length_append, b1]; omega)]
  have h1 := data_Put_L0_ ws hw (ns ++ bts (u64 kd) 1 ++ bts (u64 (ws.length : Int)) 1) (by simp only [List.length_append, b1]; omega) (kd, ws, rs, ()) (fun ns1180 t1181 => octet_Putv1 ns1180 (t1181.2.2.1.length : Int) 1 fun ns1182 => data_Put_L2 ROUNDS t1181.2.2.1 (t1181.2.2.1.length : Int) 0 ns1182 fun ns1191 => k ns1191) ROUNDS 0 (by omega) (by unfold ROUNDS; omega)
  rw [encW, List.append_nil] at h1
  refine h1.trans ?_
  rw [p1 (by simp only [List.length_append, b1]; omega)]
  have h2 := data_Put_L2_ rs hr (ns ++ bts (u64 kd) 1 ++ bts (u64 (ws.length : Int)) 1 ++ encW ws ws.length ++ bts (u64 (rs.length : Int)) 1) (by simp only [List.length_append, b1]; omega) (fun ns1191 => k ns1191) ROUNDS 0 (by omega) (by unfold ROUNDS; omega)
  rw [encR, List.append_nil] at h2
  refine h2.trans ?_
  unfold encD
  simp only [List.append_assoc]
theorem bytesOk_of {ns : List Int} {e : Nat} (h : okD (.sl e (.int .u8)) ns) : bytesOk ns := fun x hx => by
  have := okD_int.1 ((okD_sl.1 h).2 x hx)
  simp [Lit.wf, IntKind.min, IntKind.max, IntKind.bits, IntKind.signed, i_] at this
  omega
def wordsG (ns : List Int) : Nat → Int → Bool → List Int → Int × Bool × List Int
  | 0, a, bad, out => (a, bad, out)
  | m + 1, a, bad, out => wordsG ns m (rd ns 8 a bad).2.1 (rd ns 8 a bad).2.2 (out ++ [(rd ns 8 a bad).1])
structure Three where
  a : Int
  b : Int
  c : Int
  p : Int
  bad : Bool
def three (ns : List Int) (a : Int) (bad : Bool) : Three :=
  let r1 := rd ns 1 a bad
  let r2 := rd ns 1 r1.2.1 r1.2.2
  let r3 := rd ns 1 r2.2.1 r2.2.2
  ⟨r1.1, r2.1, r3.1, r3.2.1, r3.2.2⟩
theorem three_at {ns : List Int} {a : Int} {bad : Bool} (ha : 0 ≤ a ∧ a ≤ (ns.length : Int)) : 0 ≤ (three ns a bad).p ∧ (three ns a bad).p ≤ (ns.length : Int) := by
  unfold three
  exact rd_at (rd_at (rd_at ha))
theorem three_reads {ns : List Int} (h : bytesOk ns) (hl : ns.length ≤ 100000) {a : Int} (ha : 0 ≤ a ∧ a ≤ (ns.length : Int)) (bad : Bool) (K : Int → Int → Int → Int → Bool → Bool → List Int → Option Bool) :
    (octet_Reader_Num 1 a true bad ns fun v1 a1 l1 b1 n1 => octet_Reader_Num 1 a1 l1 b1 n1 fun v2 a2 l2 b2 n2 => octet_Reader_Num 1 a2 l2 b2 n2 fun v3 a3 l3 b3 n3 => K v1 v2 v3 a3 l3 b3 n3) = K (three ns a bad).a (three ns a bad).b (three ns a bad).c (three ns a bad).p true (three ns a bad).bad ns := by
  rw [rd_num h hl ha, rd_num h hl (rd_at ha), rd_num h hl (rd_at (rd_at ha))]
  rfl
theorem nums3 {ns : List Int} (h : bytesOk ns) (hl : ns.length ≤ 100000) {a : Int} (ha : 0 ≤ a ∧ a ≤ (ns.length : Int)) (bad : Bool) (k : Rd → List Int → Option Bool) : ref13_Nums (ns, (a, (bad, ()))) [1, 1, 1] k = k (ns, ((three ns a bad).p, ((three ns a bad).bad, ()))) [(three ns a bad).a, (three ns a bad).b, (three ns a bad).c] := by
  rw [nums_ h hl _ (by simp) ha]
  rfl
def relsG (ns : List Int) : Nat → Int → Bool → List Rl → Int × Int × Bool × List Rl
  | 0, a, bad, out => (0, a, bad, out)
  | m + 1, a, bad, out =>
    let f := three ns a bad
    if f.bad = true then (5, f.p, f.bad, []) else if f.c > 1 then (3, f.p, f.bad, []) else relsG ns m f.p f.bad (out ++ [(f.a, f.b, f.c == 1, ())])
theorem wordsG_at {ns : List Int} : ∀ (m : Nat) {a : Int} {bad : Bool} {out : List Int}, 0 ≤ a ∧ a ≤ (ns.length : Int) → 0 ≤ (wordsG ns m a bad out).1 ∧ (wordsG ns m a bad out).1 ≤ (ns.length : Int)
  | 0, a, bad, out, ha => ha
  | m + 1, a, bad, out, ha => by rw [wordsG]; exact wordsG_at m (rd_at ha)
theorem wordsG_len {ns : List Int} : ∀ (m : Nat) (a : Int) (bad : Bool) (out : List Int), (wordsG ns m a bad out).2.2.length = out.length + m
  | 0, a, bad, out => rfl
  | m + 1, a, bad, out => by rw [wordsG, wordsG_len m]; simp; omega
theorem relsG_len (ns : List Int) : ∀ (m : Nat) (a : Int) (bad : Bool) (out : List Rl), (relsG ns m a bad out).2.2.2.length ≤ out.length + m
  | 0, a, bad, out => by rw [relsG]; exact Nat.le_refl _
  | m + 1, a, bad, out => by
    rw [relsG]
    split
    · exact Nat.zero_le _
    · split
      · exact Nat.zero_le _
      · have := relsG_len ns m (three ns a bad).p (three ns a bad).bad (out ++ [((three ns a bad).a, (three ns a bad).b, (three ns a bad).c == 1, ())])
        simp at this
        omega
theorem dwordsL {ns : List Int} (h : bytesOk ns) (hl : ns.length ≤ 100000) (x y : Int) (k : Int → Bool → Bool → List Int → Int → Int → List Int → Option Bool) : ∀ (n m i : Nat) (a : Int) (bad : Bool) (out : List Int), 0 ≤ a ∧ a ≤ (ns.length : Int) → i + m ≤ 300 → out.length ≤ i → m < n →
    data_Get_L0 n ((i + m : Nat) : Int) (i : Int) a true bad ns x y out k = k (wordsG ns m a bad out).1 true (wordsG ns m a bad out).2.1 ns x y (wordsG ns m a bad out).2.2
  | 0, m, i, a, bad, out, _, _, _, g => by omega
  | n + 1, 0, i, a, bad, out, ha, h1, h2, h3 => by
    rw [data_Get_L0]
    unfold data_Get_L0.body wordsG
    simp (disch := first | omega | (simp only [List.length_append, List.length_cons, List.length_nil, List.length_set, List.length_take, List.length_drop, List.length_replicate]; omega) | fail) only [cond_t, cond_f, dt, df, w64, wu64, w8, ble_t, ble_f, ieqt, ieqf, inet, inef, Bool.not_true, Bool.not_false, Bool.true_and, Bool.and_true, Bool.false_and, Bool.and_false, Bool.not_not, dTrue, dFalse, Int.toNat_natCast, List.length_append, List.length_cons, List.length_nil, meet_self]
  | n + 1, m + 1, i, a, bad, out, ha, h1, h2, h3 => by
    rw [data_Get_L0]
    unfold data_Get_L0.body
    simp (disch := first | omega | (simp only [List.length_append, List.length_cons, List.length_nil, List.length_set, List.length_take, List.length_drop, List.length_replicate]; omega) | fail) only [cond_t, cond_f, dt, df, w64, wu64, w8, ble_t, ble_f, ieqt, ieqf, inet, inef, Bool.not_true, Bool.not_false, Bool.true_and, Bool.and_true, Bool.false_and, Bool.and_false, Bool.not_not, dTrue, dFalse, Int.toNat_natCast, List.length_append, List.length_cons, List.length_nil, meet_self]
    rw [rd_num h hl ha, wordsG]
    try simp (disch := first | omega | (simp only [List.length_append, List.length_cons, List.length_nil, List.length_set, List.length_take, List.length_drop, List.length_replicate]; omega) | fail) only [cond_t, cond_f, dt, df, w64, wu64, w8, ble_t, ble_f, ieqt, ieqf, inet, inef, Bool.not_true, Bool.not_false, Bool.true_and, Bool.and_true, Bool.false_and, Bool.and_false, Bool.not_not, dTrue, dFalse, Int.toNat_natCast, List.length_append, List.length_cons, List.length_nil, meet_self]
    have ih := dwordsL h hl x y k n m (i + 1) (rd ns 8 a bad).2.1 (rd ns 8 a bad).2.2 (out ++ [(rd ns 8 a bad).1]) (rd_at ha) (by omega) (by simp; omega) (by omega)
    rw [show i + 1 + m = i + (m + 1) by omega] at ih
    exact ih
theorem rwordsGL {ns : List Int} (h : bytesOk ns) (hl : ns.length ≤ 100000) (z : Int) (y : Bool) (z2 : Int) (q : List Int) (c : Nat) (hq : q.length = 2) (hqc : q.getD 1 0 = (c : Int)) (kd : Int) (k : Rd → Int → Bool → Int → Int → List Int → Option Bool) : ∀ (n m i : Nat) (a : Int) (bad : Bool) (out : List Int), 0 ≤ a ∧ a ≤ (ns.length : Int) → i + m = c → c ≤ 300 → out.length ≤ i → m < n →
    ref15_Get_L0 n (i : Int) (ns, (a, (bad, ()))) z y z2 q kd out k = k (ns, ((wordsG ns m a bad out).1, ((wordsG ns m a bad out).2.1, ()))) z y z2 kd (wordsG ns m a bad out).2.2
  | 0, m, i, a, bad, out, _, _, _, _, g => by omega
  | n + 1, 0, i, a, bad, out, ha, h1, hc, h2, h3 => by
    rw [ref15_Get_L0]
    unfold ref15_Get_L0.body wordsG
    rw [hqc]
    simp (disch := first | omega | (simp only [List.length_append, List.length_cons, List.length_nil, List.length_set, List.length_take, List.length_drop, List.length_replicate]; omega) | fail) only [cond_t, cond_f, dt, df, w64, wu64, w8, ble_t, ble_f, ieqt, ieqf, inet, inef, Bool.not_true, Bool.not_false, Bool.true_and, Bool.and_true, Bool.false_and, Bool.and_false, Bool.not_not, dTrue, dFalse, Int.toNat_natCast, List.length_append, List.length_cons, List.length_nil, meet_self]
  | n + 1, m + 1, i, a, bad, out, ha, h1, hc, h2, h3 => by
    rw [ref15_Get_L0]
    unfold ref15_Get_L0.body
    rw [hqc]
    simp (disch := first | omega | (simp only [List.length_append, List.length_cons, List.length_nil, List.length_set, List.length_take, List.length_drop, List.length_replicate]; omega) | fail) only [cond_t, cond_f, dt, df, w64, wu64, w8, ble_t, ble_f, ieqt, ieqf, inet, inef, Bool.not_true, Bool.not_false, Bool.true_and, Bool.and_true, Bool.false_and, Bool.and_false, Bool.not_not, dTrue, dFalse, Int.toNat_natCast, List.length_append, List.length_cons, List.length_nil, meet_self]
    rw [rd_rnum h hl ha, wordsG]
    try simp (disch := first | omega | (simp only [List.length_append, List.length_cons, List.length_nil, List.length_set, List.length_take, List.length_drop, List.length_replicate]; omega) | fail) only [cond_t, cond_f, dt, df, w64, wu64, w8, ble_t, ble_f, ieqt, ieqf, inet, inef, Bool.not_true, Bool.not_false, Bool.true_and, Bool.and_true, Bool.false_and, Bool.and_false, Bool.not_not, dTrue, dFalse, Int.toNat_natCast, List.length_append, List.length_cons, List.length_nil, meet_self]
    exact rwordsGL h hl z y z2 q c hq hqc kd k n m (i + 1) (rd ns 8 a bad).2.1 (rd ns 8 a bad).2.2 (out ++ [(rd ns 8 a bad).1]) (rd_at ha) (by omega) hc (by simp; omega) (by omega)
theorem drelsL {ns : List Int} (h : bytesOk ns) (hl : ns.length ≤ 100000) (x y : Int) (ws : List Int) (k1 : Int → Int → Bool → Bool → List Int → Dt → Option Bool) (k2 : Int → Bool → Bool → List Int → Int → Int → List Int → List Rl → Option Bool) : ∀ (n m i : Nat) (a : Int) (bad : Bool) (out : List Rl), 0 ≤ a ∧ a ≤ (ns.length : Int) → i + m ≤ 300 → out.length ≤ i → m < n →
    data_Get_L2 n ((i + m : Nat) : Int) (i : Int) a true bad ns x y ws out k1 k2 = if (relsG ns m a bad out).1 = 0 then k2 (relsG ns m a bad out).2.1 true (relsG ns m a bad out).2.2.1 ns x y ws (relsG ns m a bad out).2.2.2 else k1 (relsG ns m a bad out).1 (relsG ns m a bad out).2.1 true (relsG ns m a bad out).2.2.1 ns (0, [], [], ())
  | 0, m, i, a, bad, out, _, _, _, g => by omega
  | n + 1, 0, i, a, bad, out, ha, h1, h2, h3 => by
    rw [data_Get_L2]
    unfold data_Get_L2.body relsG
    simp (disch := first | omega | (simp only [List.length_append, List.length_cons, List.length_nil, List.length_set, List.length_take, List.length_drop, List.length_replicate]; omega) | fail) only [cond_t, cond_f, dt, df, w64, wu64, w8, ble_t, ble_f, ieqt, ieqf, inet, inef, Bool.not_true, Bool.not_false, Bool.true_and, Bool.and_true, Bool.false_and, Bool.and_false, Bool.not_not, dTrue, dFalse, Int.toNat_natCast, List.length_append, List.length_cons, List.length_nil, meet_self]
    rfl
  | n + 1, m + 1, i, a, bad, out, ha, h1, h2, h3 => by
    rw [data_Get_L2]
    unfold data_Get_L2.body octet_Reader_Bad octet_Reader_Bad.body
    have hf := three_at (bad := bad) ha
    simp (disch := first | omega | (simp only [List.length_append, List.length_cons, List.length_nil, List.length_set, List.length_take, List.length_drop, List.length_replicate]; omega) | fail) only [cond_t, cond_f, dt, df, w64, wu64, w8, ble_t, ble_f, ieqt, ieqf, inet, inef, Bool.not_true, Bool.not_false, Bool.true_and, Bool.and_true, Bool.false_and, Bool.and_false, Bool.not_not, dTrue, dFalse, Int.toNat_natCast, List.length_append, List.length_cons, List.length_nil, meet_self]
    rw [three_reads h hl ha]
    rw [relsG]
    generalize three ns a bad = f at hf ⊢
    by_cases c1 : f.bad = true
    · rw [if_pos c1, c1]
      simp (disch := first | omega | (simp only [List.length_append, List.length_cons, List.length_nil, List.length_set, List.length_take, List.length_drop, List.length_replicate]; omega) | fail) only [cond_t, cond_f, dt, df, w64, wu64, w8, ble_t, ble_f, ieqt, ieqf, inet, inef, Bool.not_true, Bool.not_false, Bool.true_and, Bool.and_true, Bool.false_and, Bool.and_false, Bool.not_not, dTrue, dFalse, Int.toNat_natCast, List.length_append, List.length_cons, List.length_nil, meet_self]
      rfl
    · rw [if_neg c1]
      rw [Bool.not_eq_true] at c1
      rw [c1]
      by_cases c2 : f.c > 1
      · rw [if_pos c2]
        simp (disch := first | omega | (simp only [List.length_append, List.length_cons, List.length_nil, List.length_set, List.length_take, List.length_drop, List.length_replicate]; omega) | fail) only [cond_t, cond_f, dt, df, w64, wu64, w8, ble_t, ble_f, ieqt, ieqf, inet, inef, Bool.not_true, Bool.not_false, Bool.true_and, Bool.and_true, Bool.false_and, Bool.and_false, Bool.not_not, dTrue, dFalse, Int.toNat_natCast, List.length_append, List.length_cons, List.length_nil, meet_self]
        rfl
      · rw [if_neg c2]
        simp (disch := first | omega | (simp only [List.length_append, List.length_cons, List.length_nil, List.length_set, List.length_take, List.length_drop, List.length_replicate]; omega) | fail) only [cond_t, cond_f, dt, df, w64, wu64, w8, ble_t, ble_f, ieqt, ieqf, inet, inef, Bool.not_true, Bool.not_false, Bool.true_and, Bool.and_true, Bool.false_and, Bool.and_false, Bool.not_not, dTrue, dFalse, Int.toNat_natCast, List.length_append, List.length_cons, List.length_nil, meet_self]
        have ih := drelsL h hl x y ws k1 k2 n m (i + 1) f.p false (out ++ [(f.a, f.b, f.c == 1, ())]) hf (by omega) (by simp; omega) (by omega)
        rw [show i + 1 + m = i + (m + 1) by omega] at ih
        exact ih
theorem rrelsGL {ns : List Int} (h : bytesOk ns) (hl : ns.length ≤ 100000) (z : Int) (y : Bool) (k1 : Int → List Int → Int → Bool → Option Bool) (k2 : Rd → Int → Bool → List Rl → Option Bool) : ∀ (n m i : Nat) (a : Int) (bad : Bool) (out : List Rl), 0 ≤ a ∧ a ≤ (ns.length : Int) → i + m ≤ 300 → out.length ≤ i → m < n →
    ref15_GetRelocs_L0 n ((i + m : Nat) : Int) (i : Int) (ns, (a, (bad, ()))) z y out k1 k2 = if (relsG ns m a bad out).1 = 0 then k2 (ns, ((relsG ns m a bad out).2.1, ((relsG ns m a bad out).2.2.1, ()))) z y (relsG ns m a bad out).2.2.2 else k1 (relsG ns m a bad out).1 ns (relsG ns m a bad out).2.1 (relsG ns m a bad out).2.2.1
  | 0, m, i, a, bad, out, _, _, _, g => by omega
  | n + 1, 0, i, a, bad, out, ha, h1, h2, h3 => by
    rw [ref15_GetRelocs_L0]
    unfold ref15_GetRelocs_L0.body relsG
    simp (disch := first | omega | (simp only [List.length_append, List.length_cons, List.length_nil, List.length_set, List.length_take, List.length_drop, List.length_replicate]; omega) | fail) only [cond_t, cond_f, dt, df, w64, wu64, w8, ble_t, ble_f, ieqt, ieqf, inet, inef, Bool.not_true, Bool.not_false, Bool.true_and, Bool.and_true, Bool.false_and, Bool.and_false, Bool.not_not, dTrue, dFalse, Int.toNat_natCast, List.length_append, List.length_cons, List.length_nil, meet_self]
    rfl
  | n + 1, m + 1, i, a, bad, out, ha, h1, h2, h3 => by
    rw [ref15_GetRelocs_L0]
    unfold ref15_GetRelocs_L0.body
    have hf := three_at (bad := bad) ha
    simp (disch := first | omega | (simp only [List.length_append, List.length_cons, List.length_nil, List.length_set, List.length_take, List.length_drop, List.length_replicate]; omega) | fail) only [cond_t, cond_f, dt, df, w64, wu64, w8, ble_t, ble_f, ieqt, ieqf, inet, inef, Bool.not_true, Bool.not_false, Bool.true_and, Bool.and_true, Bool.false_and, Bool.and_false, Bool.not_not, dTrue, dFalse, Int.toNat_natCast, List.length_append, List.length_cons, List.length_nil, meet_self]
    rw [nums3 h hl ha]
    rw [relsG]
    generalize three ns a bad = f at hf ⊢
    by_cases c1 : f.bad = true
    · rw [if_pos c1, c1]
      simp (disch := first | omega | (simp only [List.length_append, List.length_cons, List.length_nil, List.length_set, List.length_take, List.length_drop, List.length_replicate]; omega) | fail) only [cond_t, cond_f, dt, df, w64, wu64, w8, ble_t, ble_f, ieqt, ieqf, inet, inef, Bool.not_true, Bool.not_false, Bool.true_and, Bool.and_true, Bool.false_and, Bool.and_false, Bool.not_not, dTrue, dFalse, Int.toNat_natCast, List.length_append, List.length_cons, List.length_nil, meet_self]
      rfl
    · rw [if_neg c1]
      rw [Bool.not_eq_true] at c1
      rw [c1]
      by_cases c2 : f.c > 1
      · rw [if_pos c2]
        simp (disch := first | omega | (simp only [List.length_append, List.length_cons, List.length_nil, List.length_set, List.length_take, List.length_drop, List.length_replicate]; omega) | fail) only [cond_t, cond_f, dt, df, w64, wu64, w8, ble_t, ble_f, ieqt, ieqf, inet, inef, Bool.not_true, Bool.not_false, Bool.true_and, Bool.and_true, Bool.false_and, Bool.and_false, Bool.not_not, dTrue, dFalse, Int.toNat_natCast, List.length_append, List.length_cons, List.length_nil, meet_self, List.getD_cons_succ, List.getD_cons_zero]
        rfl
      · rw [if_neg c2]
        simp (disch := first | omega | (simp only [List.length_append, List.length_cons, List.length_nil, List.length_set, List.length_take, List.length_drop, List.length_replicate]; omega) | fail) only [cond_t, cond_f, dt, df, w64, wu64, w8, ble_t, ble_f, ieqt, ieqf, inet, inef, Bool.not_true, Bool.not_false, Bool.true_and, Bool.and_true, Bool.false_and, Bool.and_false, Bool.not_not, dTrue, dFalse, Int.toNat_natCast, List.length_append, List.length_cons, List.length_nil, meet_self, List.getD_cons_succ, List.getD_cons_zero]
        have ih := rrelsGL h hl z y k1 k2 n m (i + 1) f.p false (out ++ [(f.a, f.b, f.c == 1, ())]) hf (by omega) (by simp; omega) (by omega)
        rw [show i + 1 + m = i + (m + 1) by omega] at ih
        exact ih
/-- the next data: what it is, an error's number, where the reader is -/
def datE (r1 : Int × Int × Bool) (w : Int × Bool × List Int) (g : Int × Int × Bool × List Rl) : Dt × Int × Int × Bool := if g.1 = 0 then (if g.2.2.1 = true then ((0, [], [], ()), 5, g.2.1, true) else ((r1.1, w.2.2, g.2.2.2, ()), 0, g.2.1, g.2.2.1)) else ((0, [], [], ()), g.1, g.2.1, g.2.2.1)
def datD (ns : List Int) (r1 : Int × Int × Bool) (w : Int × Bool × List Int) (r3 : Int × Int × Bool) : Dt × Int × Int × Bool := datE r1 w (relsG ns r3.1.toNat r3.2.1 r3.2.2 [])
def datC (ns : List Int) (r1 : Int × Int × Bool) (w : Int × Bool × List Int) : Dt × Int × Int × Bool := datD ns r1 w (rd ns 1 w.1 w.2.1)
def datB (ns : List Int) (r1 r2 : Int × Int × Bool) : Dt × Int × Int × Bool := datC ns r1 (wordsG ns r2.1.toNat r2.2.1 r2.2.2 [])
def datA (ns : List Int) (r1 : Int × Int × Bool) : Dt × Int × Int × Bool := datB ns r1 (rd ns 1 r1.2.1 r1.2.2)
def datG (ns : List Int) : Dt × Int × Int × Bool := datA ns (rd ns 1 0 false)
theorem dget_ {ns : List Int} (h : bytesOk ns) (hl : ns.length ≤ 100000) (k : Dt → Int → Int → Bool → Bool → List Int → Option Bool) : data_Get 0 true false ns k = k (datG ns).1 (datG ns).2.1 (datG ns).2.2.1 true (datG ns).2.2.2 ns := by
  unfold data_Get data_Get.body datG datA datB datC datD datE
  have a0 : (0 : Int) ≤ 0 ∧ (0 : Int) ≤ (ns.length : Int) := ⟨by omega, by omega⟩
  rw [rd_num h hl a0]
  have a1 := rd_at (ns := ns) (w := 1) (bad := false) a0
  generalize rd ns 1 0 false = r1 at a1 ⊢
  rw [rd_num h hl a1]
  have a2 := rd_at (ns := ns) (w := 1) (bad := r1.2.2) a1
  have v2 := rd_lt h (w := 1) (bad := r1.2.2) a1 (by omega)
  generalize rd ns 1 r1.2.1 r1.2.2 = r2 at a2 v2 ⊢
  have v2b : r2.1 < 256 := v2.2
  have hw := dwordsL h hl 0 r1.1 (fun n781 b782 b783 ns784 n785 n786 ns787 => octet_Reader_Num 1 n781 b782 b783 ns784 fun n788 n789 b790 b791 ns792 => data_Get_L2 ROUNDS n788 0 n789 b790 b791 ns792 n785 n786 ns787 [] (fun n823 n824 b825 b826 ns827 t828 => k t828 n823 n824 b825 b826 ns827) fun n829 b830 b831 ns832 n833 n834 ns835 ts836 => octet_Reader_Bad n829 b830 b831 ns832 fun b837 n838 b839 b840 ns841 => cond_ b837 (k (0, [], [], ()) 5 n838 b839 b840 ns841) (k (n834, ns835, ts836, ()) 0 n838 b839 b840 ns841)) ROUNDS r2.1.toNat 0 r2.2.1 r2.2.2 [] a2 (by omega) (by simp) (by unfold ROUNDS; omega)
  rw [show ((0 + r2.1.toNat : Nat) : Int) = r2.1 by omega] at hw
  refine hw.trans ?_
  have a3 := wordsG_at (ns := ns) r2.1.toNat (bad := r2.2.2) (out := []) a2
  generalize wordsG ns r2.1.toNat r2.2.1 r2.2.2 [] = w at a3 ⊢
  rw [rd_num h hl a3]
  have a4 := rd_at (ns := ns) (w := 1) (bad := w.2.1) a3
  have v4 := rd_lt h (w := 1) (bad := w.2.1) a3 (by omega)
  generalize rd ns 1 w.1 w.2.1 = r3 at a4 v4 ⊢
  have v4b : r3.1 < 256 := v4.2
  have hg := drelsL h hl 0 r1.1 w.2.2 (fun n823 n824 b825 b826 ns827 t828 => k t828 n823 n824 b825 b826 ns827) (fun n829 b830 b831 ns832 n833 n834 ns835 ts836 => octet_Reader_Bad n829 b830 b831 ns832 fun b837 n838 b839 b840 ns841 => cond_ b837 (k (0, [], [], ()) 5 n838 b839 b840 ns841) (k (n834, ns835, ts836, ()) 0 n838 b839 b840 ns841)) ROUNDS r3.1.toNat 0 r3.2.1 r3.2.2 [] a4 (by omega) (by simp) (by unfold ROUNDS; omega)
  rw [show ((0 + r3.1.toNat : Nat) : Int) = r3.1 by omega] at hg
  refine hg.trans ?_
  generalize relsG ns r3.1.toNat r3.2.1 r3.2.2 [] = g
  by_cases c : g.1 = 0
  · rw [if_pos c, if_pos c]
    unfold octet_Reader_Bad octet_Reader_Bad.body
    by_cases c2 : g.2.2.1 = true
    · rw [if_pos c2, c2]
      simp (disch := first | omega | (simp only [List.length_append, List.length_cons, List.length_nil, List.length_set, List.length_take, List.length_drop, List.length_replicate]; omega) | fail) only [cond_t, cond_f, dt, df, w64, wu64, w8, ble_t, ble_f, ieqt, ieqf, inet, inef, Bool.not_true, Bool.not_false, Bool.true_and, Bool.and_true, Bool.false_and, Bool.and_false, Bool.not_not, dTrue, dFalse, Int.toNat_natCast, List.length_append, List.length_cons, List.length_nil, meet_self]
    · rw [if_neg c2]
      rw [Bool.not_eq_true] at c2
      rw [c2]
      simp (disch := first | omega | (simp only [List.length_append, List.length_cons, List.length_nil, List.length_set, List.length_take, List.length_drop, List.length_replicate]; omega) | fail) only [cond_t, cond_f, dt, df, w64, wu64, w8, ble_t, ble_f, ieqt, ieqf, inet, inef, Bool.not_true, Bool.not_false, Bool.true_and, Bool.and_true, Bool.false_and, Bool.and_false, Bool.not_not, dTrue, dFalse, Int.toNat_natCast, List.length_append, List.length_cons, List.length_nil, meet_self]
  · rw [if_neg c, if_neg c]
theorem rflag_ (b : Bool) (k : Int → Option Bool) : ref13_Flag b k = k (fl b) := by cases b <;> rfl
theorem q1 {ns : List Int} (hl : ns.length ≤ 100000) (n : Int) (k : List Int → Option Bool) : ref02_Putv1 ns n 1 k = k (ns ++ bts (u64 n) 1) := ref02_Putv1_ hl n 1 k
theorem q8 {ns : List Int} (hl : ns.length ≤ 100000) (n : Int) (k : List Int → Option Bool) : ref02_Putv1 ns n 8 k = k (ns ++ bts (u64 n) 8) := ref02_Putv1_ hl n 8 k
theorem rputWL (kd : Int) (ws : List Int) (rs : List Rl) (hl : ws.length ≤ 200) (ns : List Int) (hn : ns.length ≤ 2000) (k : List Int → Dt → Option Bool) : ∀ (n i : Nat), i ≤ ws.length → ws.length - i < n → ref15_Put_L0 n (i : Int) (ns ++ encW ws i) (kd, ws, rs, ()) k = k (ns ++ encW ws ws.length) (kd, ws, rs, ())
  | 0, i, _, h => by omega
  | n + 1, i, h0, h1 => by
    rw [ref15_Put_L0]
    unfold ref15_Put_L0.body
    have he := encW_len ws i
    by_cases h : i < ws.length
    · simp (disch := first | omega | (simp only [List.length_append, List.length_cons, List.length_nil, List.length_set, List.length_take, List.length_drop, List.length_replicate]; omega) | fail) only [cond_t, cond_f, dt, df, w64, wu64, w8, ble_t, ble_f, ieqt, ieqf, inet, inef, Bool.not_true, Bool.not_false, Bool.true_and, Bool.and_true, Bool.false_and, Bool.and_false, Bool.not_not, dTrue, dFalse, Int.toNat_natCast, List.length_append, List.length_cons, List.length_nil, meet_self]
      rw [q8 (by rw [List.length_append]; omega)]
      have ih := rputWL kd ws rs hl ns hn k n (i + 1) (by omega) (by omega)
      rw [encW, ← List.append_assoc] at ih
      exact ih
    · obtain rfl : i = ws.length := by omega
      simp (disch := first | omega | (simp only [List.length_append, List.length_cons, List.length_nil, List.length_set, List.length_take, List.length_drop, List.length_replicate]; omega) | fail) only [cond_t, cond_f, dt, df, w64, wu64, w8, ble_t, ble_f, ieqt, ieqf, inet, inef, Bool.not_true, Bool.not_false, Bool.true_and, Bool.and_true, Bool.false_and, Bool.and_false, Bool.not_not, dTrue, dFalse, Int.toNat_natCast, List.length_append, List.length_cons, List.length_nil, meet_self]
theorem rputRL (rs : List Rl) (hl : rs.length ≤ 200) (ns : List Int) (hn : ns.length ≤ 5000) (k : List Int → Option Bool) : ∀ (n i : Nat), i ≤ rs.length → rs.length - i < n → ref15_PutRelocs_L0 n rs (i : Int) (ns ++ encR rs i) k = k (ns ++ encR rs rs.length)
  | 0, i, _, h => by omega
  | n + 1, i, h0, h1 => by
    rw [ref15_PutRelocs_L0]
    unfold ref15_PutRelocs_L0.body
    have he := encR_len rs i
    by_cases h : i < rs.length
    · simp (disch := first | omega | (simp only [List.length_append, List.length_cons, List.length_nil, List.length_set, List.length_take, List.length_drop, List.length_replicate]; omega) | fail) only [cond_t, cond_f, dt, df, w64, wu64, w8, ble_t, ble_f, ieqt, ieqf, inet, inef, Bool.not_true, Bool.not_false, Bool.true_and, Bool.and_true, Bool.false_and, Bool.and_false, Bool.not_not, dTrue, dFalse, Int.toNat_natCast, List.length_append, List.length_cons, List.length_nil, meet_self]
      rw [q1 (by rw [List.length_append]; omega), q1 (by simp only [List.length_append, b1]; omega), rflag_, q1 (by simp only [List.length_append, b1]; omega)]
      have ih := rputRL rs hl ns hn k n (i + 1) (by omega) (by omega)
      rw [encR, encR1] at ih
      simp only [← List.append_assoc] at ih
      exact ih
    · obtain rfl : i = rs.length := by omega
      simp (disch := first | omega | (simp only [List.length_append, List.length_cons, List.length_nil, List.length_set, List.length_take, List.length_drop, List.length_replicate]; omega) | fail) only [cond_t, cond_f, dt, df, w64, wu64, w8, ble_t, ble_f, ieqt, ieqf, inet, inef, Bool.not_true, Bool.not_false, Bool.true_and, Bool.and_true, Bool.false_and, Bool.and_false, Bool.not_not, dTrue, dFalse, Int.toNat_natCast, List.length_append, List.length_cons, List.length_nil, meet_self]
theorem rdput_ (kd : Int) (ws : List Int) (rs : List Rl) (hw : ws.length ≤ 200) (hr : rs.length ≤ 200) (ns : List Int) (hn : ns.length ≤ 1000) (k : List Int → Option Bool) : ref15_Put ns (kd, ws, rs, ()) k = k (ns ++ encD kd ws rs) := by
  unfold ref15_Put ref15_Put.body
  have he := encW_len ws ws.length
  have g1 : (1 : Int).toNat = 1 := rfl
  rw [rput_ (by omega), if_neg (by omega), g1, q1 (by simp only [List.length_append, b1]; omega)]
  have h1 := rputWL kd ws rs hw (ns ++ bts (u64 kd) 1 ++ bts (u64 (ws.length : Int)) 1) (by simp only [List.length_append, b1]; omega) (fun ns364 t365 => ref15_PutRelocs ns364 t365.2.2.1 fun ns378 => k ns378) ROUNDS 0 (by omega) (by unfold ROUNDS; omega)
  rw [encW, List.append_nil] at h1
  refine h1.trans ?_
  unfold ref15_PutRelocs ref15_PutRelocs.body
  rw [q1 (by simp only [List.length_append, b1]; omega)]
  have h2 := rputRL rs hr (ns ++ bts (u64 kd) 1 ++ bts (u64 (ws.length : Int)) 1 ++ encW ws ws.length ++ bts (u64 (rs.length : Int)) 1) (by simp only [List.length_append, b1]; omega) (fun ns377 => k ns377) ROUNDS 0 (by omega) (by unfold ROUNDS; omega)
  rw [encR, List.append_nil] at h2
  refine h2.trans ?_
  unfold encD
  simp only [List.append_assoc]
theorem rdget_ {ns : List Int} (h : bytesOk ns) (hl : ns.length ≤ 1000) (k : Rd → Dt → Int → Option Bool) : ref15_Get (ns, (0, (false, ()))) k = k (ns, ((datG ns).2.2.1, ((datG ns).2.2.2, ()))) (datG ns).1 (datG ns).2.1 := by
  unfold ref15_Get ref15_Get.body datG datA datB datC datD datE
  have hl : ns.length ≤ 100000 := by omega
  have a0 : (0 : Int) ≤ 0 ∧ (0 : Int) ≤ (ns.length : Int) := ⟨by omega, by omega⟩
  rw [nums_ h hl _ (by simp) a0]
  have a1 := rd_at (ns := ns) (w := 1) (bad := false) a0
  show cond_ (true && decide (0 < ((2 : Nat) : Int))) _ _ = _
  rw [cond_pos (by rfl)]
  show ref15_Get_L0 ROUNDS 0 (ns, ((rd ns 1 (rd ns 1 0 false).2.1 (rd ns 1 0 false).2.2).2.1, ((rd ns 1 (rd ns 1 0 false).2.1 (rd ns 1 0 false).2.2).2.2, ()))) 0 false 0 [(rd ns 1 0 false).1, (rd ns 1 (rd ns 1 0 false).2.1 (rd ns 1 0 false).2.2).1] (rd ns 1 0 false).1 [] _ = _
  generalize rd ns 1 0 false = r1 at a1 ⊢
  have a2 := rd_at (ns := ns) (w := 1) (bad := r1.2.2) a1
  have v2 := rd_lt h (w := 1) (bad := r1.2.2) a1 (by omega)
  generalize rd ns 1 r1.2.1 r1.2.2 = r2 at a2 v2 ⊢
  have v2b : r2.1 < 256 := v2.2
  have hw := fun k => rwordsGL h hl 0 false 0 [r1.1, r2.1] r2.1.toNat rfl (by show r2.1 = _; omega) r1.1 k ROUNDS r2.1.toNat 0 r2.2.1 r2.2.2 [] a2 (by omega) (by omega) (by simp) (by unfold ROUNDS; omega)
  refine (hw _).trans ?_
  have a3 := wordsG_at (ns := ns) r2.1.toNat (bad := r2.2.2) (out := []) a2
  generalize wordsG ns r2.1.toNat r2.2.1 r2.2.2 [] = w at a3 ⊢
  unfold ref15_GetRelocs ref15_GetRelocs.body
  rw [rd_rnum h hl a3]
  have a4 := rd_at (ns := ns) (w := 1) (bad := w.2.1) a3
  have v4 := rd_lt h (w := 1) (bad := w.2.1) a3 (by omega)
  generalize rd ns 1 w.1 w.2.1 = r3 at a4 v4 ⊢
  have v4b : r3.1 < 256 := v4.2
  have hg := fun k1 k2 => rrelsGL h hl 0 false k1 k2 ROUNDS r3.1.toNat 0 r3.2.1 r3.2.2 [] a4 (by omega) (by simp) (by unfold ROUNDS; omega)
  rw [show ((0 + r3.1.toNat : Nat) : Int) = r3.1 by omega] at hg
  refine (hg _ _).trans ?_
  generalize relsG ns r3.1.toNat r3.2.1 r3.2.2 [] = g
  by_cases c : g.1 = 0
  · rw [if_pos c, if_pos c]
    by_cases c2 : g.2.2.1 = true
    · rw [if_pos c2, c2]
      simp (disch := first | omega | (simp only [List.length_append, List.length_cons, List.length_nil, List.length_set, List.length_take, List.length_drop, List.length_replicate]; omega) | fail) only [cond_t, cond_f, dt, df, w64, wu64, w8, ble_t, ble_f, ieqt, ieqf, inet, inef, Bool.not_true, Bool.not_false, Bool.true_and, Bool.and_true, Bool.false_and, Bool.and_false, Bool.not_not, dTrue, dFalse, Int.toNat_natCast, List.length_append, List.length_cons, List.length_nil, meet_self]
    · rw [if_neg c2]
      rw [Bool.not_eq_true] at c2
      rw [c2]
      simp (disch := first | omega | (simp only [List.length_append, List.length_cons, List.length_nil, List.length_set, List.length_take, List.length_drop, List.length_replicate]; omega) | fail) only [cond_t, cond_f, dt, df, w64, wu64, w8, ble_t, ble_f, ieqt, ieqf, inet, inef, Bool.not_true, Bool.not_false, Bool.true_and, Bool.and_true, Bool.false_and, Bool.and_false, Bool.not_not, dTrue, dFalse, Int.toNat_natCast, List.length_append, List.length_cons, List.length_nil, meet_self]
  · rw [if_neg c, if_neg c]
    simp (disch := first | omega | (simp only [List.length_append, List.length_cons, List.length_nil, List.length_set, List.length_take, List.length_drop, List.length_replicate]; omega) | fail) only [cond_t, cond_f, dt, df, w64, wu64, w8, ble_t, ble_f, ieqt, ieqf, inet, inef, Bool.not_true, Bool.not_false, Bool.true_and, Bool.and_true, Bool.false_and, Bool.and_false, Bool.not_not, dTrue, dFalse, Int.toNat_natCast, List.length_append, List.length_cons, List.length_nil, meet_self]
theorem datG_len {ns : List Int} (h : bytesOk ns) : (datG ns).1.2.1.length ≤ 1000 ∧ (datG ns).1.2.2.1.length ≤ 1000 := by
  unfold datG datA datB datC datD datE
  have a0 : (0 : Int) ≤ 0 ∧ (0 : Int) ≤ (ns.length : Int) := ⟨by omega, by omega⟩
  have a1 := rd_at (ns := ns) (w := 1) (bad := false) a0
  generalize rd ns 1 0 false = r1 at a1 ⊢
  have a2 := rd_at (ns := ns) (w := 1) (bad := r1.2.2) a1
  have v2 := rd_lt h (w := 1) (bad := r1.2.2) a1 (by omega)
  have v2b : (rd ns 1 r1.2.1 r1.2.2).1 < 256 := v2.2
  have a3 := wordsG_at (ns := ns) (rd ns 1 r1.2.1 r1.2.2).1.toNat (bad := (rd ns 1 r1.2.1 r1.2.2).2.2) (out := []) a2
  have w3 := wordsG_len (ns := ns) (rd ns 1 r1.2.1 r1.2.2).1.toNat (rd ns 1 r1.2.1 r1.2.2).2.1 (rd ns 1 r1.2.1 r1.2.2).2.2 []
  simp only [List.length_nil] at w3
  generalize wordsG ns (rd ns 1 r1.2.1 r1.2.2).1.toNat (rd ns 1 r1.2.1 r1.2.2).2.1 (rd ns 1 r1.2.1 r1.2.2).2.2 [] = w at a3 w3 ⊢
  have v4 := rd_lt h (w := 1) (bad := w.2.1) a3 (by omega)
  have v4b : (rd ns 1 w.1 w.2.1).1 < 256 := v4.2
  have w4 := relsG_len ns (rd ns 1 w.1 w.2.1).1.toNat (rd ns 1 w.1 w.2.1).2.1 (rd ns 1 w.1 w.2.1).2.2 []
  simp only [List.length_nil] at w4
  generalize relsG ns (rd ns 1 w.1 w.2.1).1.toNat (rd ns 1 w.1 w.2.1).2.1 (rd ns 1 w.1 w.2.1).2.2 [] = g at w4 ⊢
  split
  · split
    · exact ⟨Nat.zero_le _, Nat.zero_le _⟩
    · exact ⟨by dsimp only; omega, by dsimp only; omega⟩
  · exact ⟨Nat.zero_le _, Nat.zero_le _⟩
theorem sameRL (a : List Rl) (hl : a.length ≤ 1000) (k1 : Bool → Option Bool) (k2 : Option Bool) : ∀ (n i : Nat), i ≤ a.length → a.length - i < n → ref15_SameRelocs_L0 n a a (i : Int) k1 k2 = k2
  | 0, i, _, h => by omega
  | n + 1, i, h0, h1 => by
    rw [ref15_SameRelocs_L0]
    unfold ref15_SameRelocs_L0.body
    by_cases h : i < a.length
    · simp (disch := first | omega | (simp only [List.length_append, List.length_cons, List.length_nil, List.length_set, List.length_take, List.length_drop, List.length_replicate]; omega) | fail) only [cond_t, cond_f, dt, df, w64, wu64, w8, ble_t, ble_f, ieqt, ieqf, inet, inef, Bool.not_true, Bool.not_false, Bool.true_and, Bool.and_true, Bool.false_and, Bool.and_false, Bool.not_not, dTrue, dFalse, Int.toNat_natCast, List.length_append, List.length_cons, List.length_nil, meet_self, beq_self_eq_true]
      exact sameRL a hl k1 k2 n (i + 1) (by omega) (by omega)
    · simp (disch := first | omega | (simp only [List.length_append, List.length_cons, List.length_nil, List.length_set, List.length_take, List.length_drop, List.length_replicate]; omega) | fail) only [cond_t, cond_f, dt, df, w64, wu64, w8, ble_t, ble_f, ieqt, ieqf, inet, inef, Bool.not_true, Bool.not_false, Bool.true_and, Bool.and_true, Bool.false_and, Bool.and_false, Bool.not_not, dTrue, dFalse, Int.toNat_natCast, List.length_append, List.length_cons, List.length_nil, meet_self]
theorem sameWL (x : Dt) (hl : x.2.1.length ≤ 1000) (k1 : Bool → Option Bool) (k2 : Option Bool) : ∀ (n i : Nat), i ≤ x.2.1.length → x.2.1.length - i < n → ref15_Same_L0 n (i : Int) x x k1 k2 = k2
  | 0, i, _, h => by omega
  | n + 1, i, h0, h1 => by
    rw [ref15_Same_L0]
    unfold ref15_Same_L0.body
    by_cases h : i < x.2.1.length
    · simp (disch := first | omega | (simp only [List.length_append, List.length_cons, List.length_nil, List.length_set, List.length_take, List.length_drop, List.length_replicate]; omega) | fail) only [cond_t, cond_f, dt, df, w64, wu64, w8, ble_t, ble_f, ieqt, ieqf, inet, inef, Bool.not_true, Bool.not_false, Bool.true_and, Bool.and_true, Bool.false_and, Bool.and_false, Bool.not_not, dTrue, dFalse, Int.toNat_natCast, List.length_append, List.length_cons, List.length_nil, meet_self]
      exact sameWL x hl k1 k2 n (i + 1) (by omega) (by omega)
    · simp (disch := first | omega | (simp only [List.length_append, List.length_cons, List.length_nil, List.length_set, List.length_take, List.length_drop, List.length_replicate]; omega) | fail) only [cond_t, cond_f, dt, df, w64, wu64, w8, ble_t, ble_f, ieqt, ieqf, inet, inef, Bool.not_true, Bool.not_false, Bool.true_and, Bool.and_true, Bool.false_and, Bool.and_false, Bool.not_not, dTrue, dFalse, Int.toNat_natCast, List.length_append, List.length_cons, List.length_nil, meet_self]
theorem dsame_ (x : Dt) (h1 : x.2.1.length ≤ 1000) (h2 : x.2.2.1.length ≤ 1000) (k : Bool → Option Bool) : ref15_Same x x k = k true := by
  unfold ref15_Same ref15_Same.body ref15_SameRelocs ref15_SameRelocs.body
  simp (disch := first | omega | (simp only [List.length_append, List.length_cons, List.length_nil, List.length_set, List.length_take, List.length_drop, List.length_replicate]; omega) | fail) only [cond_t, cond_f, dt, df, w64, wu64, w8, ble_t, ble_f, ieqt, ieqf, inet, inef, Bool.not_true, Bool.not_false, Bool.true_and, Bool.and_true, Bool.false_and, Bool.and_false, Bool.not_not, dTrue, dFalse, Int.toNat_natCast, List.length_append, List.length_cons, List.length_nil, meet_self]
  rw [show (0 : Int) = ((0 : Nat) : Int) from rfl, sameRL x.2.2.1 h2 _ _ ROUNDS 0 (by omega) (by unfold ROUNDS; omega)]
  exact sameWL x h1 _ _ ROUNDS 0 (by omega) (by unfold ROUNDS; omega)
theorem nobody (k : Dt → Int → Option Bool) : data_Getv1 k = k (0, [], [], ()) 5 := by
  unfold data_Getv1 data_Getv1.body
  obtain ⟨R, hR⟩ : ∃ R, ROUNDS = R + 1 := ⟨1180591620717411303423, rfl⟩
  have hn : ∀ (K : Int → Option Bool), octet_Reader_Numv1 1 K = K 0 := by
    intro K
    unfold octet_Reader_Numv1 octet_Reader_Numv1.body octet_numberv1 octet_numberv1.body octet_Reader_takev1 octet_Reader_takev1.body octet_Reader_Badv1 octet_Reader_Badv1.body octet_Reader_spoilv1 octet_Reader_spoilv1.body
    rw [hR]
    simp (disch := first | omega | (simp only [List.length_append, List.length_cons, List.length_nil, List.length_set, List.length_take, List.length_drop, List.length_replicate]; omega) | fail) only [cond_t, cond_f, dt, df, w64, wu64, w8, ble_t, ble_f, ieqt, ieqf, inet, inef, Bool.not_true, Bool.not_false, Bool.true_and, Bool.and_true, Bool.false_and, Bool.and_false, Bool.not_not, dTrue, dFalse, Int.toNat_natCast, List.length_append, List.length_cons, List.length_nil, meet_self]
    rw [octet_numberv1_L0]
    unfold octet_numberv1_L0.body
    simp (disch := first | omega | (simp only [List.length_append, List.length_cons, List.length_nil, List.length_set, List.length_take, List.length_drop, List.length_replicate]; omega) | fail) only [cond_t, cond_f, dt, df, w64, wu64, w8, ble_t, ble_f, ieqt, ieqf, inet, inef, Bool.not_true, Bool.not_false, Bool.true_and, Bool.and_true, Bool.false_and, Bool.and_false, Bool.not_not, dTrue, dFalse, Int.toNat_natCast, List.length_append, List.length_cons, List.length_nil, meet_self]
  rw [hn, hn, hR, data_Getv1_L0]
  unfold data_Getv1_L0.body
  simp (disch := first | omega | (simp only [List.length_append, List.length_cons, List.length_nil, List.length_set, List.length_take, List.length_drop, List.length_replicate]; omega) | fail) only [cond_t, cond_f, dt, df, w64, wu64, w8, ble_t, ble_f, ieqt, ieqf, inet, inef, Bool.not_true, Bool.not_false, Bool.true_and, Bool.and_true, Bool.false_and, Bool.and_false, Bool.not_not, dTrue, dFalse, Int.toNat_natCast, List.length_append, List.length_cons, List.length_nil, meet_self]
  rw [hn, data_Getv1_L2]
  unfold data_Getv1_L2.body octet_Reader_Badv1 octet_Reader_Badv1.body
  simp (disch := first | omega | (simp only [List.length_append, List.length_cons, List.length_nil, List.length_set, List.length_take, List.length_drop, List.length_replicate]; omega) | fail) only [cond_t, cond_f, dt, df, w64, wu64, w8, ble_t, ble_f, ieqt, ieqf, inet, inef, Bool.not_true, Bool.not_false, Bool.true_and, Bool.and_true, Bool.false_and, Bool.and_false, Bool.not_not, dTrue, dFalse, Int.toNat_natCast, List.length_append, List.length_cons, List.length_nil, meet_self]
theorem holds (d : Dt) (ns : List Int) (h0 : okD (.st [(.int .i64), (.sl 2 (.int .i64)), (.sl 51 (.st [(.int .i64), (.int .i64), .bool]))]) d) (h1 : okD (.sl 5 (.int .u8)) ns) : law15_DataOctets d ns (fun y => some y) = some true := by
  have hb := bytesOk_of h1
  obtain ⟨kd, ws, rs, ⟨⟩⟩ := d
  unfold law15_DataOctets law15_DataOctets.body law15_known octet_New octet_New.body octet_Reader_At octet_Reader_At.body
  rw [few_]
  by_cases c1 : ws.length ≤ 100 ∧ rs.length ≤ 100
  · rw [dt c1]
    by_cases c2 : (ns.length : Int) > 1000
    · simp (disch := first | omega | (simp only [List.length_append, List.length_cons, List.length_nil, List.length_set, List.length_take, List.length_drop, List.length_replicate]; omega) | fail) only [cond_t, cond_f, dt, df, w64, wu64, w8, ble_t, ble_f, ieqt, ieqf, inet, inef, Bool.not_true, Bool.not_false, Bool.true_and, Bool.and_true, Bool.false_and, Bool.and_false, Bool.not_not, dTrue, dFalse, Int.toNat_natCast, List.length_append, List.length_cons, List.length_nil, meet_self]
    · simp (disch := first | omega | (simp only [List.length_append, List.length_cons, List.length_nil, List.length_set, List.length_take, List.length_drop, List.length_replicate]; omega) | fail) only [cond_t, cond_f, dt, df, w64, wu64, w8, ble_t, ble_f, ieqt, ieqf, inet, inef, Bool.not_true, Bool.not_false, Bool.true_and, Bool.and_true, Bool.false_and, Bool.and_false, Bool.not_not, dTrue, dFalse, Int.toNat_natCast, List.length_append, List.length_cons, List.length_nil, meet_self]
      rw [dput_ kd ws rs (by omega) (by omega) ns (by omega), rdput_ kd ws rs (by omega) (by omega) ns (by omega), seqt rfl]
      simp (disch := first | omega | (simp only [List.length_append, List.length_cons, List.length_nil, List.length_set, List.length_take, List.length_drop, List.length_replicate]; omega) | fail) only [cond_t, cond_f, dt, df, w64, wu64, w8, ble_t, ble_f, ieqt, ieqf, inet, inef, Bool.not_true, Bool.not_false, Bool.true_and, Bool.and_true, Bool.false_and, Bool.and_false, Bool.not_not, dTrue, dFalse, Int.toNat_natCast, List.length_append, List.length_cons, List.length_nil, meet_self, List.nil_append]
      rw [dget_ hb (by omega), rdget_ hb (by omega)]
      have hlen := datG_len hb
      rw [dsame_ _ (by dsimp only; omega) (by dsimp only; omega)]
      simp (disch := first | omega | (simp only [List.length_append, List.length_cons, List.length_nil, List.length_set, List.length_take, List.length_drop, List.length_replicate]; omega) | fail) only [cond_t, cond_f, dt, df, w64, wu64, w8, ble_t, ble_f, ieqt, ieqf, inet, inef, Bool.not_true, Bool.not_false, Bool.true_and, Bool.and_true, Bool.false_and, Bool.and_false, Bool.not_not, dTrue, dFalse, Int.toNat_natCast, List.length_append, List.length_cons, List.length_nil, meet_self, nobody]
      by_cases c3 : (datG ns).2.1 = 0
      · simp (disch := first | omega | (simp only [List.length_append, List.length_cons, List.length_nil, List.length_set, List.length_take, List.length_drop, List.length_replicate]; omega) | fail) only [cond_t, cond_f, dt, df, w64, wu64, w8, ble_t, ble_f, ieqt, ieqf, inet, inef, Bool.not_true, Bool.not_false, Bool.true_and, Bool.and_true, Bool.false_and, Bool.and_false, Bool.not_not, dTrue, dFalse, Int.toNat_natCast, List.length_append, List.length_cons, List.length_nil, meet_self]
      · simp (disch := first | omega | (simp only [List.length_append, List.length_cons, List.length_nil, List.length_set, List.length_take, List.length_drop, List.length_replicate]; omega) | fail) only [cond_t, cond_f, dt, df, w64, wu64, w8, ble_t, ble_f, ieqt, ieqf, inet, inef, Bool.not_true, Bool.not_false, Bool.true_and, Bool.and_true, Bool.false_and, Bool.and_false, Bool.not_not, dTrue, dFalse, Int.toNat_natCast, List.length_append, List.length_cons, List.length_nil, meet_self]
  · rw [df c1]
    simp (disch := first | omega | (simp only [List.length_append, List.length_cons, List.length_nil, List.length_set, List.length_take, List.length_drop, List.length_replicate]; omega) | fail) only [cond_t, cond_f, dt, df, w64, wu64, w8, ble_t, ble_f, ieqt, ieqf, inet, inef, Bool.not_true, Bool.not_false, Bool.true_and, Bool.and_true, Bool.false_and, Bool.and_false, Bool.not_not, dTrue, dFalse, Int.toNat_natCast, List.length_append, List.length_cons, List.length_nil, meet_self]

end Go.Proofs.Ytbedajhajmkapaa.dataOctets
