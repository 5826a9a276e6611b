/- What the plain functions answer: the law, without program or memory. -/
import Derived.Test.YtbpjepcgokoaiaaMG
import Derived.IntWalk
import Derived.Laws.Strings
namespace Go.Proofs.Ytbpjepcgokoaiaa.runsOctets
open Go.AX Go.Proofs.Ytbpjepcgokoaiaa.g
set_option linter.unusedVariables false
set_option linter.unusedSimpArgs false
theorem cond_ite (b : Bool) (x y : Option Bool) : cond_ b x y = if b = true then x else y := by cases b <;> rfl
@[simp] theorem cond_t (x y : Option Bool) : cond_ true x y = x := (cond_ite true x y).trans (if_pos rfl)
@[simp] theorem cond_f (x y : Option Bool) : cond_ false x y = y := (cond_ite false x y).trans (if_neg (by decide))
theorem cond_pos {b : Bool} {x y : Option Bool} (h : b = true) : cond_ b x y = x := by rw [h]; rfl
theorem cond_neg {b : Bool} {x y : Option Bool} (h : b = false) : cond_ b x y = y := by rw [h]; rfl
@[simp] theorem meet_self (x : Option Bool) : meet x x = x := by
  cases x with
  | none => rfl
  | some a => simp [meet]
theorem w64 {n : Int} (h1 : -9223372036854775808 ≤ n) (h2 : n ≤ 9223372036854775807) : IntKind.wrap .i64 n = n := IntWalk.i64_in n ⟨h1, h2⟩
theorem w8 {n : Int} (h1 : 0 ≤ n) (h2 : n ≤ 255) : IntKind.wrap .u8 n = n := IntWalk.u8_in n ⟨h1, h2⟩
theorem wu64 {n : Int} (h1 : 0 ≤ n) (h2 : n ≤ 18446744073709551615) : IntKind.wrap .u64 n = n := IntWalk.u64_in n ⟨h1, h2⟩
theorem ble_t {a b : Nat} (h : a ≤ b) : Nat.ble a b = true := by rw [Nat.ble_eq]; exact h
theorem ok64 {n : Int} (h : okD (.int .i64) n) : -9223372036854775808 ≤ n ∧ n ≤ 9223372036854775807 := by
  have := okD_int.1 h
  simpa [Lit.wf, IntKind.min, IntKind.max, IntKind.bits, IntKind.signed, i_] using this
theorem not_t {p : Prop} [Decidable p] (h : ¬p) : (!decide p) = true := by simp [h]
theorem not_f {p : Prop} [Decidable p] (h : p) : (!decide p) = false := by simp [h]
theorem cond_congr {b c : Bool} (h : b = c) (x y : Option Bool) : cond_ b x y = cond_ c x y := by rw [h]
attribute [local congr] cond_congr
theorem dt {p : Prop} [Decidable p] (h : p) : decide p = true := decide_eq_true h
theorem df {p : Prop} [Decidable p] (h : ¬p) : decide p = false := decide_eq_false h
theorem ieqt {a b : Int} (h : a = b) : (a == b) = true := by simp [h]
theorem ieqf {a b : Int} (h : a ≠ b) : (a == b) = false := by simp [h]
theorem inet {a b : Int} (h : a ≠ b) : (a != b) = true := by simp [h]
theorem inef {a b : Int} (h : a = b) : (a != b) = false := by simp [h]
theorem ble_f {a b : Nat} (h : b < a) : Nat.ble a b = false := by
  cases hb : Nat.ble a b with
  | false => rfl
  | true => rw [Nat.ble_eq] at hb; omega
theorem rounds_ : ∃ R, ROUNDS = R ∧ 1000000000 ≤ R := ⟨ROUNDS, rfl, by unfold ROUNDS; omega⟩
theorem dTrue {i : Decidable True} : decide True = true := dt trivial
theorem dFalse {i : Decidable False} : decide False = false := df fun h => h
theorem if_iff {α : Type} {p q : Prop} [Decidable p] [Decidable q] (h : p ↔ q) (a b : α) : (if p then a else b) = (if q then a else b) := by
  by_cases hp : p
  · rw [if_pos hp, if_pos (h.1 hp)]
  · rw [if_neg hp, if_neg (fun g => hp (h.2 g))]
def u64 (n : Int) : Int := n % 18446744073709551616
theorem wu64_eq (n : Int) : IntKind.wrap .u64 n = u64 n := by
  simp [IntKind.wrap, IntKind.bits, IntKind.signed, u64]
/-- the last bytes of a number -/
def bts (u : Int) : Nat → List Int
  | 0 => []
  | m + 1 => (u / 256 ^ m) % 256 :: bts u m
theorem bts_len (u : Int) : ∀ m, (bts u m).length = m
  | 0 => rfl
  | m + 1 => by simp [bts, bts_len u m]
theorem w8_eq (n : Int) : IntKind.wrap .u8 n = n % 256 := by
  simp [IntKind.wrap, IntKind.bits, IntKind.signed]
theorem u64_lo (n : Int) : 0 ≤ u64 n ∧ u64 n < 18446744073709551616 := by unfold u64; omega
theorem innerL (u : Int) (ns : List Int) (K : Int → Int → Int → List Int → Option Bool) : ∀ (n : Nat) (i k x : Int), 0 ≤ k → k ≤ i → i ≤ 8 → 0 ≤ x → x < 18446744073709551616 → (i - k).toNat < n → ref02_Put_L0_L2 n u i x k ns K = K u i (x / 256 ^ (i - k).toNat) ns
  | 0, i, k, x, _, _, _, _, _, h => by omega
  | n + 1, i, k, x, h0, h1, h2, h3, h4, h5 => by
    rw [ref02_Put_L0_L2]
    unfold ref02_Put_L0_L2.body
    by_cases h : k < i
    · have e : IntKind.wrap .u64 (Int.tdiv x 256) = x / 256 := by
        rw [Int.tdiv_eq_ediv_of_nonneg h3, wu64 (by omega) (by omega)]
      rw [cond_pos (by simpa using h), e, w64 (by omega) (by omega), innerL u ns K n i (k + 1) (x / 256) (by omega) (by omega) h2 (by omega) (by omega) (by omega)]
      congr 1
      rw [show (i - k).toNat = (i - (k + 1)).toNat + 1 by omega, Int.pow_succ, Int.mul_comm, Int.ediv_ediv_of_nonneg (by omega)]
    · rw [cond_neg (by simpa using h)]
      rw [show (i - k).toNat = 0 by omega]
      simp
theorem outerL (u : Int) (hu : 0 ≤ u ∧ u < 18446744073709551616) (K : List Int → Option Bool) : ∀ (n : Nat) (m : Nat) (acc : List Int), m ≤ 8 → acc.length ≤ 4194304 - m → m < n → ref02_Put_L0 n u ((m : Int) - 1) acc K = K (acc ++ bts u m)
  | 0, m, acc, _, _, h => by omega
  | n + 1, 0, acc, _, _, h => by
    rw [ref02_Put_L0]
    unfold ref02_Put_L0.body
    rw [cond_neg (by simp)]
    simp [bts]
  | n + 1, m + 1, acc, h1, h2, h3 => by
    rw [ref02_Put_L0]
    unfold ref02_Put_L0.body
    rw [cond_pos (decide_eq_true (by omega)), innerL u acc _ ROUNDS _ 0 u (by omega) (by omega) (by omega) hu.1 hu.2 (by unfold ROUNDS; omega)]
    rw [show ((((m + 1 : Nat) : Int) - 1) - 0).toNat = m by omega]
    have hb : 0 ≤ u / 256 ^ m := Int.ediv_nonneg hu.1 (Int.pow_nonneg (by omega))
    have e : IntKind.wrap .u8 (Int.tmod (u / 256 ^ m) 256) = (u / 256 ^ m) % 256 := by
      rw [Int.tmod_eq_emod_of_nonneg hb, w8_eq]
      omega
    rw [e, ble_t (by simp; omega), cond_t, w64 (by omega) (by omega), show ((m + 1 : Nat) : Int) - 1 - 1 = (m : Int) - 1 by omega, outerL u hu K n m _ (by omega) (by simp; omega) (by omega)]
    rw [List.append_assoc]
    first | rfl | (simp [bts])
theorem rput_ {ns : List Int} (hl : ns.length ≤ 100000) (n w : Int) (k : List Int → Option Bool) : ref02_Put ns n w k = k (if w < 1 ∨ w > 8 then ns else ns ++ bts (u64 n) w.toNat) := by
  unfold ref02_Put ref02_Put.body
  rw [ble_t (by omega), cond_t]
  by_cases h1 : w < 1
  · rw [if_pos (.inl h1), cond_neg (not_f h1)]
  · by_cases h2 : w > 8
    · rw [if_pos (.inr h2), cond_pos (not_t h1), cond_pos (decide_eq_true h2)]
    · rw [if_neg (by omega), cond_pos (not_t h1), cond_neg (decide_eq_false h2), w64 (by omega) (by omega), wu64_eq]
      have := outerL (u64 n) (u64_lo n) (fun ns29 => k ns29) ROUNDS w.toNat ns (by omega) (by omega) (by unfold ROUNDS; omega)
      rw [show ((w.toNat : Nat) : Int) - 1 = w - 1 by omega] at this
      exact this
theorem fdiv_byte (n : Int) (m : Nat) (c : Int) (hc : c = 256 ^ m) (hm : m ≤ 7) : IntKind.wrap .u8 (Int.fdiv n c) = (u64 n / 256 ^ m) % 256 := by
  subst hc
  rw [w8_eq]
  have h0 : (0 : Int) ≤ 256 ^ m := Int.pow_nonneg (by omega)
  rw [Int.fdiv_eq_ediv_of_nonneg _ h0]
  unfold u64
  rcases m with _ | _ | _ | _ | _ | _ | _ | _ | m
  all_goals first | omega | (simp only [Nat.zero_add, Nat.reduceAdd, Int.reducePow] ; omega)
theorem putCells (ns : List Int) (n w : Int) (h1 : 1 ≤ w) (h2 : w ≤ 8) : List.take (Int.toNat (8 - (8 - w))) (List.drop (Int.toNat (8 - w)) ((IntKind.wrap .u8 (Int.fdiv n 72057594037927936)) :: (IntKind.wrap .u8 (Int.fdiv n 281474976710656)) :: (IntKind.wrap .u8 (Int.fdiv n 1099511627776)) :: (IntKind.wrap .u8 (Int.fdiv n 4294967296)) :: (IntKind.wrap .u8 (Int.fdiv n 16777216)) :: (IntKind.wrap .u8 (Int.fdiv n 65536)) :: (IntKind.wrap .u8 (Int.fdiv n 256)) :: (IntKind.wrap .u8 (Int.fdiv n 1)) :: [])) = bts (u64 n) w.toNat := by
  rw [fdiv_byte n 7 72057594037927936 rfl (by omega), fdiv_byte n 6 281474976710656 rfl (by omega), fdiv_byte n 5 1099511627776 rfl (by omega), fdiv_byte n 4 4294967296 rfl (by omega), fdiv_byte n 3 16777216 rfl (by omega), fdiv_byte n 2 65536 rfl (by omega), fdiv_byte n 1 256 rfl (by omega), fdiv_byte n 0 1 rfl (by omega)]
  have : w = 1 ∨ w = 2 ∨ w = 3 ∨ w = 4 ∨ w = 5 ∨ w = 6 ∨ w = 7 ∨ w = 8 := by omega
  rcases this with rfl | rfl | rfl | rfl | rfl | rfl | rfl | rfl <;> rfl
theorem w64_cong {a b : Int} (h : a % 18446744073709551616 = b % 18446744073709551616) : IntKind.wrap .i64 a = IntKind.wrap .i64 b := by
  rw [IntKind.wrap_i64, IntKind.wrap_i64]
  omega
theorem w64_mod (a : Int) : IntKind.wrap .i64 a % 18446744073709551616 = a % 18446744073709551616 := by
  rw [IntKind.wrap_i64]
  omega
theorem ofInt_nat (a : Int) : (BitVec.ofInt 64 a).toNat = (a % 18446744073709551616).toNat := by
  rw [BitVec.toNat_ofInt]
  rfl
theorem or_byte (U b : Int) (hb : 0 ≤ b ∧ b < 256) : IntKind.wrap .i64 (((BitVec.toNat ((BitVec.ofInt 64 (IntKind.wrap .i64 (IntKind.wrap .i64 U * 256))) ||| (BitVec.ofInt 64 (IntKind.wrap .i64 b)))) : Nat) : Int) = IntKind.wrap .i64 (U * 256 + b) := by
  apply w64_cong
  rw [BitVec.toNat_or, ofInt_nat, ofInt_nat, w64_mod, w64_mod]
  have e1 : (IntKind.wrap .i64 U * 256) % 18446744073709551616 = (U % 72057594037927936) * 256 := by
    have := w64_mod U
    omega
  have e2 : b % 18446744073709551616 = b := by omega
  rw [e1, e2]
  have e3 : ((U % 72057594037927936) * 256).toNat = (U % 72057594037927936).toNat <<< 8 := by
    rw [Nat.shiftLeft_eq]
    omega
  rw [e3, ← Nat.shiftLeft_add_eq_or_of_lt (by omega : b.toNat < 2 ^ 8), Nat.shiftLeft_eq]
  omega
/-- bytes as a number -/
def val (bs : List Int) : Int := bs.foldl (fun u b => u * 256 + b) 0
theorem val_snoc (bs : List Int) (b : Int) : val (bs ++ [b]) = val bs * 256 + b := by simp [val]
def bytesOk (ns : List Int) : Prop := ∀ x ∈ ns, 0 ≤ x ∧ x < 256
theorem cut_snoc {ns : List Int} {m i : Nat} (h : m + i < ns.length) : (ns.drop m).take (i + 1) = (ns.drop m).take i ++ [ns.getD (m + i) 0] := by
  rw [List.take_add_one]
  congr 1
  rw [List.getElem?_drop, List.getElem?_eq_getElem h, List.getD_eq_getElem?_getD, List.getElem?_eq_getElem h]
  rfl
theorem getD_ok {ns : List Int} (h : bytesOk ns) {i : Nat} (hi : i < ns.length) : 0 ≤ ns.getD i 0 ∧ ns.getD i 0 < 256 := by
  rw [List.getD_eq_getElem?_getD, List.getElem?_eq_getElem hi]
  exact h _ (List.getElem_mem _)
theorem val_lt {ns : List Int} (h : bytesOk ns) : ∀ (m i : Nat), m + i ≤ ns.length → 0 ≤ val ((ns.drop m).take i) ∧ val ((ns.drop m).take i) < 256 ^ i
  | m, 0, _ => by simp [val]
  | m, i + 1, hi => by
    have := val_lt h m i (by omega)
    have hb := getD_ok h (i := m + i) (by omega)
    rw [cut_snoc (by omega), val_snoc, Int.pow_succ]
    omega
theorem numL {ns : List Int} (h : bytesOk ns) (hl : ns.length ≤ 100000) {m l : Nat} (hm : m + l ≤ ns.length) (a : Int) (b c : Bool) (k : Int → Nat → Nat → Int → Bool → Bool → List Int → Option Bool) : ∀ (n i : Nat), i ≤ l → l - i < n →
    octet_number_L0v1 n (IntKind.wrap .i64 (val ((ns.drop m).take i))) m l m l ((l : Nat) : Int) ((i : Nat) : Int) a b c ns k = k (IntKind.wrap .i64 (val ((ns.drop m).take l))) m l a b c ns
  | 0, i, _, h2 => by omega
  | n + 1, i, h1, h2 => by
    rw [octet_number_L0v1]
    unfold octet_number_L0v1.body
    by_cases hi : i < l
    · have hb := getD_ok h (i := m + i) (by omega)
      rw [cond_pos (decide_eq_true (by omega)), cond_pos (by simp; omega), Int.toNat_natCast, or_byte _ _ hb, ← val_snoc, ← cut_snoc (by omega), w64 (n := (i : Int) + 1) (by omega) (by omega), show ((i : Nat) : Int) + 1 = ((i + 1 : Nat) : Int) by omega]
      exact numL h hl hm a b c k n (i + 1) (by omega) (by omega)
    · rw [cond_neg (decide_eq_false (by omega)), show i = l by omega]
theorem take_ {ns : List Int} (hl : ns.length ≤ 100000) {a : Int} (ha : 0 ≤ a ∧ a ≤ (ns.length : Int)) (w : Int) (bad : Bool) (k1 : Int → Bool → Bool → List Int → List Int → Option Bool) (k2 : Nat → Nat → Int → Bool → Bool → List Int → Option Bool) :
    octet_Reader_take w a true bad ns k1 k2 = if bad = true ∨ w < 0 ∨ w > (ns.length : Int) - a then k1 a true true ns [] else k2 a.toNat w.toNat (a + w) true bad ns := by
  unfold octet_Reader_take octet_Reader_take.body octet_Reader_Bad octet_Reader_Bad.body octet_Reader_Left octet_Reader_Left.body octet_Reader_spoil octet_Reader_spoil.body
  dsimp only
  rw [cond_pos (by rfl)]
  cases bad with
  | true => simp
  | false =>
    rw [cond_pos (by rfl)]
    by_cases h1 : w < 0
    · rw [cond_neg (not_f h1), if_pos (.inr (.inl h1))]
    · rw [cond_pos (not_t h1), w64 (n := (ns.length : Int) - a) (by omega) (by omega)]
      by_cases h2 : w > (ns.length : Int) - a
      · rw [cond_pos (decide_eq_true h2), if_pos (.inr (.inr h2))]
      · rw [cond_neg (decide_eq_false h2), if_neg (by simp; omega), w64 (n := a + w) (by omega) (by omega), w64 (n := a + w - w) (by omega) (by omega), cond_pos (by simp; omega)]
        rw [show a + w - w = a by omega, show a + w - a = w by omega]
theorem numNil (a : Int) (b c : Bool) (ns : List Int) (k : Int → Int → Bool → Bool → List Int → List Int → Option Bool) : octet_number_L0 ROUNDS 0 (([] : List Int).length : Int) 0 a b c ns [] k = k 0 a b c ns [] := by
  have e : octet_number_L0 ROUNDS = octet_number_L0 (1180591620717411303423 + 1) := rfl
  rw [e, octet_number_L0]
  simp [octet_number_L0.body]
theorem number_ {ns : List Int} (h : bytesOk ns) (hl : ns.length ≤ 100000) {a : Int} (ha : 0 ≤ a ∧ a ≤ (ns.length : Int)) (w : Int) (bad : Bool) (k1 : Int → Int → Bool → Bool → List Int → List Int → Option Bool) (k2 : Int → Nat → Nat → Int → Bool → Bool → List Int → Option Bool) :
    octet_number w a true bad ns k1 k2 = if bad = true ∨ w < 1 ∨ w > 8 ∨ w > (ns.length : Int) - a then k1 0 a true true ns [] else k2 (IntKind.wrap .i64 (val ((ns.drop a.toNat).take w.toNat))) a.toNat w.toNat (a + w) true bad ns := by
  unfold octet_number octet_number.body
  by_cases h1 : w < 1
  · rw [cond_neg (not_f h1), take_ hl ha, if_pos (by omega), if_pos (by omega), numNil]
  · rw [cond_pos (not_t h1)]
    by_cases h2 : w > 8
    · rw [cond_pos (decide_eq_true h2), take_ hl ha, if_pos (by omega), if_pos (by omega), numNil]
    · rw [cond_neg (decide_eq_false h2), take_ hl ha]
      by_cases h3 : bad = true ∨ w < 0 ∨ w > (ns.length : Int) - a
      · rw [if_pos h3, if_pos (by rcases h3 with h | h | h; exact .inl h; omega; exact .inr (.inr (.inr h))), numNil]
      · have h3' : ¬ (bad = true) := fun e => h3 (.inl e)
        rw [if_neg h3, if_neg (by rintro (h | h | h | h); exact h3' h; omega; omega; exact h3 (.inr (.inr h)))]
        have := numL h hl (m := a.toNat) (l := w.toNat) (by omega) (a + w) true bad (fun n168 m169 m170 n171 b172 b173 ns174 => k2 n168 m169 m170 n171 b172 b173 ns174) ROUNDS 0 (by omega) (by unfold ROUNDS; omega)
        rw [List.take_zero] at this
        exact this
theorem val_from : ∀ (bs : List Int) (u : Int), bs.foldl (fun u b => u * 256 + b) u = u * 256 ^ bs.length + val bs
  | [], u => by simp [val]
  | b :: r, u => by
    have e : val (b :: r) = b * 256 ^ r.length + val r := by
      show (b :: r).foldl (fun u b => u * 256 + b) 0 = _
      rw [List.foldl_cons, val_from r]
      simp
    rw [List.foldl_cons, val_from r, e, List.length_cons, Int.pow_succ, Int.add_mul, Int.mul_assoc, Int.mul_comm 256]
    omega
theorem val_first {ns : List Int} {m l : Nat} (h : m + (l + 1) ≤ ns.length) : val ((ns.drop m).take (l + 1)) = ns.getD m 0 * 256 ^ l + val ((ns.drop (m + 1)).take l) := by
  have hm : m < ns.length := by omega
  rw [List.drop_eq_getElem_cons hm, List.take_succ_cons, val, List.foldl_cons, val_from, List.length_take, List.length_drop, Nat.min_eq_left (by omega), List.getD_eq_getElem?_getD, List.getElem?_eq_getElem hm]
  simp
theorem pow8 : ∀ i : Nat, i ≤ 8 → (256 : Int) ^ i ≤ 18446744073709551616 := by
  intro i hi
  rcases i with _ | _ | _ | _ | _ | _ | _ | _ | _ | i
  all_goals first | omega | decide
abbrev Rd := List Int × Int × Bool × Unit
theorem rnumL {ns : List Int} (h : bytesOk ns) (hl : ns.length ≤ 100000) {a : Int} {w : Int} (ha : 0 ≤ a) (hw : w ≤ 8) (hm : a + w ≤ (ns.length : Int)) (s : Bool) (bad : Bool) (x : Int) (y : Bool) (k : Int → Bool → Int → Rd → Int → Bool → Option Bool) : ∀ (n i : Nat), (i : Int) ≤ w → (w - i).toNat < n →
    ref02_Num_L0 n w s (val ((ns.drop a.toNat).take i)) (i : Int) (ns, (a, (bad, ()))) x y k = k w s (val ((ns.drop a.toNat).take w.toNat)) (ns, (a, (bad, ()))) x y
  | 0, i, _, h2 => by omega
  | n + 1, i, h1, h2 => by
    rw [ref02_Num_L0]
    unfold ref02_Num_L0.body
    by_cases hi : (i : Int) < w
    · have hb := getD_ok h (i := a.toNat + i) (by omega)
      have hv := val_lt h a.toNat i (by omega)
      have hv2 := val_lt h a.toNat (i + 1) (by omega)
      have hp := pow8 (i + 1) (by omega)
      have e : (IntKind.wrap .i64 (a + (i : Int))) = a + (i : Int) := w64 (by omega) (by omega)
      have e2 : (a + (i : Int)).toNat = a.toNat + i := by omega
      rw [cut_snoc (by omega), val_snoc] at hv2
      dsimp only
      rw [cond_pos (decide_eq_true hi), e, e2, cond_pos (by simp; omega), wu64 (n := val ((ns.drop a.toNat).take i) * 256) (by omega) (by omega), wu64 (n := ns.getD (a.toNat + i) 0) (by omega) (by omega), wu64 (by omega) (by omega), ← val_snoc, ← cut_snoc (by omega), w64 (n := (i : Int) + 1) (by omega) (by omega), show ((i : Nat) : Int) + 1 = ((i + 1 : Nat) : Int) by omega]
      exact rnumL h hl ha hw hm s bad x y k n (i + 1) (by omega) (by omega)
    · rw [cond_neg (decide_eq_false hi), show w.toNat = i by omega]
theorem rtopL {w u : Int} (hw : w ≤ 7) (t : Rd) (x : Int) (y : Bool) (k : Int → Int → Int → Rd → Int → Bool → Option Bool) : ∀ (n i : Nat), (i : Int) ≤ w → (w - i).toNat < n → ref02_Num_L2 n w u (256 ^ i) (i : Int) t x y k = k w u (256 ^ w.toNat) t x y
  | 0, i, _, h2 => by omega
  | n + 1, i, h1, h2 => by
    rw [ref02_Num_L2]
    unfold ref02_Num_L2.body
    by_cases hi : (i : Int) < w
    · have hp : (256 : Int) ^ (i + 1) ≤ 72057594037927936 := by
        have : i ≤ 6 := by omega
        rcases i with _ | _ | _ | _ | _ | _ | _ | i
        all_goals first | omega | decide
      have hp0 : (0 : Int) ≤ 256 ^ (i + 1) := Int.pow_nonneg (by omega)
      rw [cond_pos (decide_eq_true hi), ← Int.pow_succ, wu64 hp0 (by omega), w64 (n := (i : Int) + 1) (by omega) (by omega), show ((i : Nat) : Int) + 1 = ((i + 1 : Nat) : Int) by omega]
      exact rtopL hw t x y k n (i + 1) (by omega) (by omega)
    · rw [cond_neg (decide_eq_false hi), show w.toNat = i by omega]
def sgn (ns : List Int) (a w : Int) : Int := if w < 8 ∧ 128 ≤ ns.getD a.toNat 0 then val ((ns.drop a.toNat).take w.toNat) - 256 ^ w.toNat else IntKind.wrap .i64 (val ((ns.drop a.toNat).take w.toNat))
theorem rnum_ {ns : List Int} (h : bytesOk ns) (hl : ns.length ≤ 100000) {a : Int} (ha : 0 ≤ a ∧ a ≤ (ns.length : Int)) (w : Int) (s bad : Bool) (k : Rd → Int → Option Bool) :
    ref02_Num (ns, (a, (bad, ()))) w s k = if bad = true ∨ w < 1 ∨ w > 8 ∨ w > (ns.length : Int) - a then k (ns, (a, (true, ()))) 0 else k (ns, (a + w, (bad, ()))) (if s = true then sgn ns a w else IntKind.wrap .i64 (val ((ns.drop a.toNat).take w.toNat))) := by
  unfold ref02_Num ref02_Num.body
  dsimp only
  cases bad with
  | true => simp
  | false =>
    rw [cond_pos (by rfl)]
    by_cases h1 : w < 1
    · rw [cond_neg (not_f h1), if_pos (.inr (.inl h1))]
    · rw [cond_pos (not_t h1)]
      by_cases h2 : w > 8
      · rw [cond_neg (not_f h2), if_pos (.inr (.inr (.inl h2)))]
      · rw [cond_pos (not_t h2), w64 (n := (ns.length : Int) - a) (by omega) (by omega)]
        by_cases h3 : w > (ns.length : Int) - a
        · rw [cond_pos (decide_eq_true h3), if_pos (.inr (.inr (.inr h3)))]
        · rw [cond_neg (decide_eq_false h3), if_neg (by simp; omega)]
          have hL := fun k => rnumL h hl (a := a) (w := w) ha.1 (by omega) (by omega) s false 0 false k ROUNDS 0 (by omega) (by unfold ROUNDS; omega)
          rw [List.take_zero] at hL
          have hL' := fun k => hL k
          refine (hL' _).trans ?_
          dsimp only
          rw [w64 (n := a + w) (by omega) (by omega)]
          cases s with
          | false => rfl
          | true =>
            rw [cond_pos rfl, if_pos rfl]
            unfold sgn
            by_cases h4 : w < 8
            · rw [cond_pos (decide_eq_true h4), cond_pos (by simp; omega)]
              by_cases h5 : 128 ≤ ns.getD a.toNat 0
              · rw [cond_pos (decide_eq_true h5), if_pos ⟨h4, h5⟩]
                have hv := val_lt h a.toNat w.toNat (by omega)
                have hp : (256 : Int) ^ w.toNat ≤ 72057594037927936 := by
                  have : w.toNat ≤ 7 := by omega
                  generalize w.toNat = j at this
                  rcases j with _ | _ | _ | _ | _ | _ | _ | _ | j
                  all_goals first | omega | decide
                have hT := rtopL (w := w) (u := val ((ns.drop a.toNat).take w.toNat)) (by omega) (ns, (a, (false, ()))) 0 false (fun n324 n325 n326 t327 n328 b329 => k (t327.1, (IntKind.wrap .i64 (t327.2.1 + n324), (t327.2.2.1, ()))) (IntKind.wrap .i64 (IntKind.wrap .u64 (n325 - n326)))) ROUNDS 0 (by omega) (by unfold ROUNDS; omega)
                refine hT.trans ?_
                dsimp only
                rw [w64 (n := a + w) (by omega) (by omega), wu64_eq]
                unfold u64
                congr 1
                rw [IntKind.wrap_i64]
                omega
              · rw [cond_neg (decide_eq_false h5), if_neg (fun h => h5 h.2)]
            · rw [cond_neg (decide_eq_false h4), if_neg (fun h => h4 h.1)]
theorem shl_ (V b0 R : Int) : ∀ w : Nat, 1 ≤ w → w ≤ 8 → V = b0 * 256 ^ (w - 1) + R → 0 ≤ R → R < 256 ^ (w - 1) → 0 ≤ b0 → b0 < 256 →
    Int.fdiv (IntKind.wrap .i64 (IntKind.wrap .i64 V * 2 ^ (8 * (8 - w)))) (2 ^ (8 * (8 - w))) = if w < 8 ∧ 128 ≤ b0 then V - 256 ^ w else IntKind.wrap .i64 V := by
  intro w h1 h2 hV hR0 hR1 hb0 hb1
  rw [Int.fdiv_eq_ediv_of_nonneg _ (Int.pow_nonneg (by omega)), IntKind.wrap_i64, IntKind.wrap_i64]
  rcases w with _ | _ | _ | _ | _ | _ | _ | _ | _ | w
  · omega
  all_goals first | omega | skip
  all_goals
    simp only [Nat.reduceAdd, Nat.reduceSub, Nat.reduceMul, Int.reducePow, Nat.zero_add, Int.pow_zero, Int.mul_one] at *
    split <;> omega
theorem num_ {ns : List Int} (h : bytesOk ns) (hl : ns.length ≤ 100000) {a : Int} (ha : 0 ≤ a ∧ a ≤ (ns.length : Int)) (w : Int) (bad : Bool) (k : Int → Int → Bool → Bool → List Int → Option Bool) :
    octet_Reader_Num w a true bad ns k = if bad = true ∨ w < 1 ∨ w > 8 ∨ w > (ns.length : Int) - a then k 0 a true true ns else k (IntKind.wrap .i64 (val ((ns.drop a.toNat).take w.toNat))) (a + w) true bad ns := by
  unfold octet_Reader_Num octet_Reader_Num.body
  rw [number_ h hl ha]
theorem octet_Put_ {ns : List Int} (hl : ns.length ≤ 100000) (n w : Int) (k : List Int → Option Bool) : octet_Put ns n w k = k (if w < 1 ∨ w > 8 then ns else ns ++ bts (u64 n) w.toNat) := by
  unfold octet_Put octet_Put.body
  rw [ble_t (by omega), cond_t]
  by_cases h1 : w < 1
  · rw [if_pos (.inl h1), cond_neg (not_f h1)]; rfl
  · by_cases h2 : w > 8
    · rw [if_pos (.inr h2), cond_pos (not_t h1), cond_pos (decide_eq_true h2)]; rfl
    · rw [if_neg (by omega), cond_pos (not_t h1), cond_neg (decide_eq_false h2), w64 (n := 8 - w) (by omega) (by omega), cond_pos (by simp; omega), putCells ns n w (by omega) (by omega), ble_t (by rw [bts_len]; simp; omega), cond_t]
      rfl
theorem seqt {a b : ByteArray} (h : a = b) : (a.toList == b.toList) = true := by rw [h]; exact beq_self_eq_true _
theorem seqf {a b : ByteArray} (h : a ≠ b) : (a.toList == b.toList) = false := by
  rw [ByteArray.toList_eq, ByteArray.toList_eq, beq_eq_false_iff_ne]
  intro he
  apply h
  cases a with | mk a =>
  cases b with | mk b =>
  exact congrArg ByteArray.mk (Array.toList_inj.1 he)
theorem bytes_inj : ∀ {a b : List Int}, (∀ x ∈ a, 0 ≤ x ∧ x < 256) → (∀ x ∈ b, 0 ≤ x ∧ x < 256) → a.map (fun n => UInt8.ofNat n.toNat) = b.map (fun n => UInt8.ofNat n.toNat) → a = b
  | [], [], _, _, _ => rfl
  | [], _ :: _, _, _, h => by simp at h
  | _ :: _, [], _, _, h => by simp at h
  | x :: a, y :: b, ha, hb, h => by
    simp only [List.map_cons, List.cons.injEq] at h
    obtain ⟨h1, h2⟩ := h
    have hx := ha x List.mem_cons_self
    have hy := hb y List.mem_cons_self
    have e : x = y := by
      have := congrArg UInt8.toNat h1
      simp only [UInt8.toNat_ofNat'] at this
      omega
    rw [e, bytes_inj (fun z hz => ha z (List.mem_cons_of_mem _ hz)) (fun z hz => hb z (List.mem_cons_of_mem _ hz)) h2]
theorem strOf_inj {a b : List Int} (ha : ∀ x ∈ a, 0 ≤ x ∧ x < 256) (hb : ∀ x ∈ b, 0 ≤ x ∧ x < 256) (h : strOf a = strOf b) : a = b := by
  refine bytes_inj ha hb ?_
  have h := congrArg (fun s : ByteArray => s.data.toList) h
  simpa [strOf] using h
/-- a reader's step: the number, where it is then, whether it is bad -/
def rd (ns : List Int) (w : Int) (a : Int) (bad : Bool) : Int × Int × Bool := if bad = true ∨ w < 1 ∨ w > 8 ∨ w > (ns.length : Int) - a then (0, a, true) else (IntKind.wrap .i64 (val ((ns.drop a.toNat).take w.toNat)), a + w, bad)
theorem rd_at {ns : List Int} {w a : Int} {bad : Bool} (ha : 0 ≤ a ∧ a ≤ (ns.length : Int)) : 0 ≤ (rd ns w a bad).2.1 ∧ (rd ns w a bad).2.1 ≤ (ns.length : Int) := by
  unfold rd
  split
  · exact ha
  · rename_i h
    have h2 : ¬ (w < 1) := fun g => h (.inr (.inl g))
    have h3 : ¬ (w > (ns.length : Int) - a) := fun g => h (.inr (.inr (.inr g)))
    dsimp only
    omega
theorem rd_lt {ns : List Int} (hb : bytesOk ns) {w a : Int} {bad : Bool} (ha : 0 ≤ a ∧ a ≤ (ns.length : Int)) (hw : w ≤ 7) : 0 ≤ (rd ns w a bad).1 ∧ (rd ns w a bad).1 < 256 ^ w.toNat := by
  unfold rd
  split
  · exact ⟨Int.le_refl _, Int.pow_pos (by omega)⟩
  · rename_i h
    have h2 : ¬ (w < 1) := fun g => h (.inr (.inl g))
    have h3 : ¬ (w > (ns.length : Int) - a) := fun g => h (.inr (.inr (.inr g)))
    have hv := val_lt hb a.toNat w.toNat (by omega)
    have hp : (256 : Int) ^ w.toNat ≤ 72057594037927936 := by
      have : w.toNat ≤ 7 := by omega
      generalize w.toNat = j at this
      rcases j with _ | _ | _ | _ | _ | _ | _ | _ | j
      all_goals first | omega | decide
    dsimp only
    rw [w64 (by omega) (by omega)]
    exact hv
theorem rd_num {ns : List Int} (h : bytesOk ns) (hl : ns.length ≤ 100000) {a : Int} (ha : 0 ≤ a ∧ a ≤ (ns.length : Int)) (w : Int) (bad : Bool) (k : Int → Int → Bool → Bool → List Int → Option Bool) :
    octet_Reader_Num w a true bad ns k = k (rd ns w a bad).1 (rd ns w a bad).2.1 true (rd ns w a bad).2.2 ns := by
  rw [num_ h hl ha]
  unfold rd
  split <;> rfl
theorem rd_rnum {ns : List Int} (h : bytesOk ns) (hl : ns.length ≤ 100000) {a : Int} (ha : 0 ≤ a ∧ a ≤ (ns.length : Int)) (w : Int) (bad : Bool) (k : Rd → Int → Option Bool) :
    ref02_Num (ns, (a, (bad, ()))) w false k = k (ns, ((rd ns w a bad).2.1, ((rd ns w a bad).2.2, ()))) (rd ns w a bad).1 := by
  rw [rnum_ h hl ha]
  unfold rd
  split <;> rfl
abbrev Ro := Int × Int × Bool × Int × Unit
abbrev Ru := Int × Int × Int × Bool × Int × Unit
def sameRow (a b : Ro) : Bool := (a.1 == b.1) && ((a.2.1 == b.2.1) && ((a.2.2.1 == b.2.2.1) && ((a.2.2.2.1 == b.2.2.2.1) && true)))
theorem sameRow_iff (a b : Ro) : sameRow a b = true ↔ a = b := by
  obtain ⟨a1, a2, a3, a4, ⟨⟩⟩ := a
  obtain ⟨b1, b2, b3, b4, ⟨⟩⟩ := b
  unfold sameRow
  simp
theorem ex_step {P : Nat → Prop} {i m : Nat} (h : i < m) : (∃ j, i ≤ j ∧ j < m ∧ P j) ↔ P i ∨ ∃ j, i + 1 ≤ j ∧ j < m ∧ P j := by
  constructor
  · rintro ⟨j, h1, h2, h3⟩
    by_cases e : i = j
    · subst e; exact .inl h3
    · exact .inr ⟨j, by omega, h2, h3⟩
  · rintro (h1 | ⟨j, h1, h2, h3⟩)
    · exact ⟨i, Nat.le_refl _, h, h1⟩
    · exact ⟨j, by omega, h2, h3⟩
theorem ex_none {P : Nat → Prop} {i m : Nat} (h : ¬ i < m) : ¬ ∃ j, i ≤ j ∧ j < m ∧ P j := by
  rintro ⟨j, h1, h2, _⟩
  omega
theorem getD_ext {α : Type} (z : α) : ∀ {a b : List α}, a.length = b.length → (∀ i, i < a.length → a.getD i z = b.getD i z) → a = b
  | [], [], _, _ => rfl
  | [], _ :: _, h, _ => by simp at h
  | _ :: _, [], h, _ => by simp at h
  | x :: a, y :: b, h, hx => by
    have h0 := hx 0 (by simp)
    simp only [List.getD_cons_zero] at h0
    subst h0
    rw [getD_ext z (a := a) (b := b) (by simpa using h) fun i hi => by simpa using hx (i + 1) (by simpa using hi)]
open Classical in
theorem ref13_Same_L0_ (a b : List Ru) (hl : a.length ≤ 100000) (he : a.length = b.length) (k1 : Bool → Option Bool) (k2 : Option Bool) : ∀ (n i : Nat), i ≤ a.length → a.length - i < n →
    ref13_Same_L0 n a b (i : Int) k1 k2 = if ∃ j, i ≤ j ∧ j < a.length ∧ a.getD j ((0 : Int), ((0 : Int), ((0 : Int), (false, ((0 : Int), ()))))) ≠ b.getD j ((0 : Int), ((0 : Int), ((0 : Int), (false, ((0 : Int), ()))))) then k1 false else k2
  | 0, i, _, h => by omega
  | n + 1, i, h0, h1 => by
    rw [ref13_Same_L0]
    unfold ref13_Same_L0.body
    by_cases h : i < a.length
    · rw [if_iff (ex_step h)]
      have ih := ref13_Same_L0_ a b hl he k1 k2 n (i + 1) (by omega) (by omega)
      rw [cond_pos (dt (by omega)), cond_pos (by simp; omega), cond_pos (by simp; omega), Int.toNat_natCast, w64 (n := (i : Int) + 1) (by omega) (by omega), show (i : Int) + 1 = ((i + 1 : Nat) : Int) by omega, ih]
      show cond_ (!(((a.getD i ((0 : Int), ((0 : Int), ((0 : Int), (false, ((0 : Int), ())))))).1 == (b.getD i ((0 : Int), ((0 : Int), ((0 : Int), (false, ((0 : Int), ())))))).1) && (sameRow (a.getD i ((0 : Int), ((0 : Int), ((0 : Int), (false, ((0 : Int), ())))))).2 (b.getD i ((0 : Int), ((0 : Int), ((0 : Int), (false, ((0 : Int), ())))))).2 && true))) _ _ = _
      by_cases hx : a.getD i ((0 : Int), ((0 : Int), ((0 : Int), (false, ((0 : Int), ()))))) = b.getD i ((0 : Int), ((0 : Int), ((0 : Int), (false, ((0 : Int), ())))))
      · have e1 : ((a.getD i ((0 : Int), ((0 : Int), ((0 : Int), (false, ((0 : Int), ())))))).1 == (b.getD i ((0 : Int), ((0 : Int), ((0 : Int), (false, ((0 : Int), ())))))).1) = true := by rw [hx]; exact beq_self_eq_true _
        rw [(sameRow_iff _ _).2 (by rw [hx]), e1, if_iff (or_iff_right (fun g => g hx))]
        simp (disch := first | omega | (simp only [List.length_append, List.length_cons, List.length_nil, List.length_set, List.length_take, List.length_drop, List.length_replicate]; omega) | fail) only [cond_t, cond_f, dt, df, w64, wu64, w8, ble_t, ble_f, ieqt, ieqf, inet, inef, Bool.not_true, Bool.not_false, Bool.true_and, Bool.and_true, Bool.false_and, Bool.and_false, Bool.not_not, dTrue, dFalse, Int.toNat_natCast, List.length_append, List.length_cons, List.length_nil, meet_self]
      · have : (((a.getD i ((0 : Int), ((0 : Int), ((0 : Int), (false, ((0 : Int), ())))))).1 == (b.getD i ((0 : Int), ((0 : Int), ((0 : Int), (false, ((0 : Int), ())))))).1) && (sameRow (a.getD i ((0 : Int), ((0 : Int), ((0 : Int), (false, ((0 : Int), ())))))).2 (b.getD i ((0 : Int), ((0 : Int), ((0 : Int), (false, ((0 : Int), ())))))).2 && true)) = false := by
          rw [← Bool.not_eq_true]
          intro g
          simp only [Bool.and_eq_true, beq_iff_eq, Bool.and_true, sameRow_iff] at g
          exact hx (Prod.ext g.1 g.2)
        rw [this, if_pos (Or.inl hx)]
        simp (disch := first | omega | (simp only [List.length_append, List.length_cons, List.length_nil, List.length_set, List.length_take, List.length_drop, List.length_replicate]; omega) | fail) only [cond_t, cond_f, dt, df, w64, wu64, w8, ble_t, ble_f, ieqt, ieqf, inet, inef, Bool.not_true, Bool.not_false, Bool.true_and, Bool.and_true, Bool.false_and, Bool.and_false, Bool.not_not, dTrue, dFalse, Int.toNat_natCast, List.length_append, List.length_cons, List.length_nil, meet_self]
    · rw [if_neg (ex_none h)]
      simp (disch := first | omega | (simp only [List.length_append, List.length_cons, List.length_nil, List.length_set, List.length_take, List.length_drop, List.length_replicate]; omega) | fail) only [cond_t, cond_f, dt, df, w64, wu64, w8, ble_t, ble_f, ieqt, ieqf, inet, inef, Bool.not_true, Bool.not_false, Bool.true_and, Bool.and_true, Bool.false_and, Bool.and_false, Bool.not_not, dTrue, dFalse, Int.toNat_natCast, List.length_append, List.length_cons, List.length_nil, meet_self]
theorem ref13_Same_ (a b : List Ru) (hl : a.length ≤ 100000) (k : Bool → Option Bool) : ref13_Same a b k = k (decide (a = b)) := by
  unfold ref13_Same ref13_Same.body
  by_cases he : a.length = b.length
  · rw [cond_neg (inef (by omega)), show (0 : Int) = ((0 : Nat) : Int) from rfl, ref13_Same_L0_ a b hl he _ _ ROUNDS 0 (by omega) (by unfold ROUNDS; omega)]
    by_cases hab : a = b
    · subst hab
      rw [dt rfl, if_neg (by rintro ⟨j, _, _, h⟩; exact h rfl)]
    · rw [df hab, if_pos]
      refine Classical.byContradiction fun g => hab (getD_ext ((0 : Int), ((0 : Int), ((0 : Int), (false, ((0 : Int), ()))))) he fun i hi => Classical.byContradiction fun gi => g ⟨i, by omega, hi, gi⟩)
  · rw [cond_pos (inet (by omega)), df (fun e => he (by rw [e]))]
theorem octet_Putv1_ {ns : List Int} (hl : ns.length ≤ 100000) (n w : Int) (k : List Int → Option Bool) : octet_Putv1 ns n w k = k (if w < 1 ∨ w > 8 then ns else ns ++ bts (u64 n) w.toNat) := by
  unfold octet_Putv1 octet_Putv1.body
  rw [ble_t (by omega), cond_t]
  by_cases h1 : w < 1
  · rw [if_pos (.inl h1), cond_neg (not_f h1)]; rfl
  · by_cases h2 : w > 8
    · rw [if_pos (.inr h2), cond_pos (not_t h1), cond_pos (decide_eq_true h2)]; rfl
    · rw [if_neg (by omega), cond_pos (not_t h1), cond_neg (decide_eq_false h2), w64 (n := 8 - w) (by omega) (by omega), cond_pos (by simp; omega), putCells ns n w (by omega) (by omega), ble_t (by rw [bts_len]; simp; omega), cond_t]
      rfl
theorem rput1L (u : Int) (ns : List Int) (K : Int → Int → Int → List Int → Option Bool) : ∀ (n : Nat) (i k x : Int), 0 ≤ k → k ≤ i → i ≤ 8 → 0 ≤ x → x < 18446744073709551616 → (i - k).toNat < n → ref02_Putv1_L0_L2 n u i x k ns K = K u i (x / 256 ^ (i - k).toNat) ns
  | 0, i, k, x, _, _, _, _, _, h => by omega
  | n + 1, i, k, x, h0, h1, h2, h3, h4, h5 => by
    rw [ref02_Putv1_L0_L2]
    unfold ref02_Putv1_L0_L2.body
    by_cases h : k < i
    · have e : IntKind.wrap .u64 (Int.tdiv x 256) = x / 256 := by
        rw [Int.tdiv_eq_ediv_of_nonneg h3, wu64 (by omega) (by omega)]
      rw [cond_pos (by simpa using h), e, w64 (by omega) (by omega), rput1L u ns K n i (k + 1) (x / 256) (by omega) (by omega) h2 (by omega) (by omega) (by omega)]
      congr 1
      rw [show (i - k).toNat = (i - (k + 1)).toNat + 1 by omega, Int.pow_succ, Int.mul_comm, Int.ediv_ediv_of_nonneg (by omega)]
    · rw [cond_neg (by simpa using h)]
      rw [show (i - k).toNat = 0 by omega]
      simp
theorem rput1M (u : Int) (hu : 0 ≤ u ∧ u < 18446744073709551616) (K : List Int → Option Bool) : ∀ (n : Nat) (m : Nat) (acc : List Int), m ≤ 8 → acc.length ≤ 4194304 - m → m < n → ref02_Putv1_L0 n u ((m : Int) - 1) acc K = K (acc ++ bts u m)
  | 0, m, acc, _, _, h => by omega
  | n + 1, 0, acc, _, _, h => by
    rw [ref02_Putv1_L0]
    unfold ref02_Putv1_L0.body
    rw [cond_neg (by simp)]
    simp [bts]
  | n + 1, m + 1, acc, h1, h2, h3 => by
    rw [ref02_Putv1_L0]
    unfold ref02_Putv1_L0.body
    rw [cond_pos (decide_eq_true (by omega)), rput1L u acc _ ROUNDS _ 0 u (by omega) (by omega) (by omega) hu.1 hu.2 (by unfold ROUNDS; omega)]
    rw [show ((((m + 1 : Nat) : Int) - 1) - 0).toNat = m by omega]
    have hb : 0 ≤ u / 256 ^ m := Int.ediv_nonneg hu.1 (Int.pow_nonneg (by omega))
    have e : IntKind.wrap .u8 (Int.tmod (u / 256 ^ m) 256) = (u / 256 ^ m) % 256 := by
      rw [Int.tmod_eq_emod_of_nonneg hb, w8_eq]
      omega
    rw [e, ble_t (by simp; omega), cond_t, w64 (by omega) (by omega), show ((m + 1 : Nat) : Int) - 1 - 1 = (m : Int) - 1 by omega, rput1M u hu K n m _ (by omega) (by simp; omega) (by omega)]
    rw [List.append_assoc]
    first | rfl | (simp [bts])
theorem rput1_ {ns : List Int} (hl : ns.length ≤ 100000) (n w : Int) (k : List Int → Option Bool) : ref02_Putv1 ns n w k = k (if w < 1 ∨ w > 8 then ns else ns ++ bts (u64 n) w.toNat) := by
  unfold ref02_Putv1 ref02_Putv1.body
  rw [ble_t (by omega), cond_t]
  by_cases h1 : w < 1
  · rw [if_pos (.inl h1), cond_neg (not_f h1)]
  · by_cases h2 : w > 8
    · rw [if_pos (.inr h2), cond_pos (not_t h1), cond_pos (decide_eq_true h2)]
    · rw [if_neg (by omega), cond_pos (not_t h1), cond_neg (decide_eq_false h2), w64 (by omega) (by omega), wu64_eq]
      have := rput1M (u64 n) (u64_lo n) (fun ns29 => k ns29) ROUNDS w.toNat ns (by omega) (by omega) (by unfold ROUNDS; omega)
      rw [show ((w.toNat : Nat) : Int) - 1 = w - 1 by omega] at this
      exact this
def fl (b : Bool) : Int := if b = true then 1 else 0
theorem flag_ (b : Bool) (k : Int → Option Bool) : runs_flag b k = k (fl b) := by cases b <;> rfl
theorem rflag_ (b : Bool) (k : Int → Option Bool) : ref13_Flag b k = k (fl b) := by cases b <;> rfl
def encRun (x : Ru) : List Int := bts (u64 x.1) 2 ++ bts (u64 x.2.1) 2 ++ bts (u64 x.2.2.1) 2 ++ bts (u64 x.2.2.2.2.1) 2 ++ bts (u64 (fl x.2.2.2.1)) 1
theorem encRun_len (x : Ru) : (encRun x).length = 9 := by unfold encRun; simp only [List.length_append, bts_len]
def encs (l : List Ru) : Nat → List Int
  | 0 => []
  | i + 1 => encs l i ++ encRun (l.getD i ((0 : Int), ((0 : Int), ((0 : Int), (false, ((0 : Int), ()))))))
theorem encs_len (l : List Ru) : ∀ i, (encs l i).length = 9 * i
  | 0 => rfl
  | i + 1 => by rw [encs, List.length_append, encs_len l i, encRun_len]; omega
theorem p2 {ns : List Int} (hl : ns.length ≤ 100000) (n : Int) (k : List Int → Option Bool) : octet_Putv1 ns n 2 k = k (ns ++ bts (u64 n) 2) := octet_Putv1_ hl n 2 k
theorem p1 {ns : List Int} (hl : ns.length ≤ 100000) (n : Int) (k : List Int → Option Bool) : octet_Putv1 ns n 1 k = k (ns ++ bts (u64 n) 1) := octet_Putv1_ hl n 1 k
theorem q2 {ns : List Int} (hl : ns.length ≤ 100000) (n : Int) (k : List Int → Option Bool) : ref02_Putv1 ns n 2 k = k (ns ++ bts (u64 n) 2) := rput1_ hl n 2 k
theorem q1 {ns : List Int} (hl : ns.length ≤ 100000) (n : Int) (k : List Int → Option Bool) : ref02_Putv1 ns n 1 k = k (ns ++ bts (u64 n) 1) := rput1_ hl n 1 k
theorem putIn (l : List Ru) (m i a b c d : Int) (x : Ru) (ns : List Int) (hl : ns.length ≤ 90000) (k : List Ru → Int → Int → List Int → Ru → Option Bool) : runs_Put_L0_L2 ROUNDS l m i (a, b, c, d, ()) 0 ns x k = k l m i (ns ++ bts (u64 a) 2 ++ bts (u64 b) 2 ++ bts (u64 c) 2 ++ bts (u64 d) 2) x := by
  obtain ⟨R, hR⟩ : ∃ R, ROUNDS = R + 1 + 1 + 1 + 1 + 1 := ⟨1180591620717411303419, rfl⟩
  rw [hR]
  have g0 : (0 : Int).toNat = 0 := rfl
  have g1 : (1 : Int).toNat = 1 := rfl
  have g2 : (2 : Int).toNat = 2 := rfl
  have g3 : (3 : Int).toNat = 3 := rfl
  have b2 : ∀ u, (bts u 2).length = 2 := fun u => bts_len u 2
  rw [runs_Put_L0_L2]
  unfold runs_Put_L0_L2.body
  simp (disch := first | omega | (simp only [List.length_append, List.length_cons, List.length_nil, List.length_set, List.length_take, List.length_drop, List.length_replicate]; omega) | fail) only [cond_t, cond_f, dt, df, w64, wu64, w8, ble_t, ble_f, ieqt, ieqf, inet, inef, Bool.not_true, Bool.not_false, Bool.true_and, Bool.and_true, Bool.false_and, Bool.and_false, Bool.not_not, dTrue, dFalse, Int.toNat_natCast, List.length_append, List.length_cons, List.length_nil, meet_self, g0, List.getD_cons_zero]
  rw [p2 (by omega), show (0 : Int) + 1 = 1 from rfl, runs_Put_L0_L2]
  unfold runs_Put_L0_L2.body
  simp (disch := first | omega | (simp only [List.length_append, List.length_cons, List.length_nil, List.length_set, List.length_take, List.length_drop, List.length_replicate]; omega) | fail) only [cond_t, cond_f, dt, df, w64, wu64, w8, ble_t, ble_f, ieqt, ieqf, inet, inef, Bool.not_true, Bool.not_false, Bool.true_and, Bool.and_true, Bool.false_and, Bool.and_false, Bool.not_not, dTrue, dFalse, Int.toNat_natCast, List.length_append, List.length_cons, List.length_nil, meet_self, g1, List.getD_cons_succ, List.getD_cons_zero]
  rw [p2 (by simp only [List.length_append, b2]; omega), show (1 : Int) + 1 = 2 from rfl, runs_Put_L0_L2]
  unfold runs_Put_L0_L2.body
  simp (disch := first | omega | (simp only [List.length_append, List.length_cons, List.length_nil, List.length_set, List.length_take, List.length_drop, List.length_replicate]; omega) | fail) only [cond_t, cond_f, dt, df, w64, wu64, w8, ble_t, ble_f, ieqt, ieqf, inet, inef, Bool.not_true, Bool.not_false, Bool.true_and, Bool.and_true, Bool.false_and, Bool.and_false, Bool.not_not, dTrue, dFalse, Int.toNat_natCast, List.length_append, List.length_cons, List.length_nil, meet_self, g2, List.getD_cons_succ, List.getD_cons_zero]
  rw [p2 (by simp only [List.length_append, b2]; omega), show (2 : Int) + 1 = 3 from rfl, runs_Put_L0_L2]
  unfold runs_Put_L0_L2.body
  simp (disch := first | omega | (simp only [List.length_append, List.length_cons, List.length_nil, List.length_set, List.length_take, List.length_drop, List.length_replicate]; omega) | fail) only [cond_t, cond_f, dt, df, w64, wu64, w8, ble_t, ble_f, ieqt, ieqf, inet, inef, Bool.not_true, Bool.not_false, Bool.true_and, Bool.and_true, Bool.false_and, Bool.and_false, Bool.not_not, dTrue, dFalse, Int.toNat_natCast, List.length_append, List.length_cons, List.length_nil, meet_self, g3, List.getD_cons_succ, List.getD_cons_zero]
  rw [p2 (by simp only [List.length_append, b2]; omega), show (3 : Int) + 1 = 4 from rfl, runs_Put_L0_L2]
  unfold runs_Put_L0_L2.body
  simp (disch := first | omega | (simp only [List.length_append, List.length_cons, List.length_nil, List.length_set, List.length_take, List.length_drop, List.length_replicate]; omega) | fail) only [cond_t, cond_f, dt, df, w64, wu64, w8, ble_t, ble_f, ieqt, ieqf, inet, inef, Bool.not_true, Bool.not_false, Bool.true_and, Bool.and_true, Bool.false_and, Bool.and_false, Bool.not_not, dTrue, dFalse, Int.toNat_natCast, List.length_append, List.length_cons, List.length_nil, meet_self]
theorem putL (l : List Ru) (hl : l.length ≤ 300) (ns : List Int) (hn : ns.length ≤ 2000) (k : List Int → Option Bool) : ∀ (n i : Nat), i ≤ l.length → l.length - i < n → runs_Put_L0 n l (l.length : Int) (i : Int) (ns ++ encs l i) k = k (ns ++ encs l l.length)
  | 0, i, _, h => by omega
  | n + 1, i, h0, h1 => by
    rw [runs_Put_L0]
    unfold runs_Put_L0.body
    have he := encs_len l i
    by_cases h : i < l.length
    · have b2 : ∀ u, (bts u 2).length = 2 := fun u => bts_len u 2
      simp (disch := first | omega | (simp only [List.length_append, List.length_cons, List.length_nil, List.length_set, List.length_take, List.length_drop, List.length_replicate]; omega) | fail) only [cond_t, cond_f, dt, df, w64, wu64, w8, ble_t, ble_f, ieqt, ieqf, inet, inef, Bool.not_true, Bool.not_false, Bool.true_and, Bool.and_true, Bool.false_and, Bool.and_false, Bool.not_not, dTrue, dFalse, Int.toNat_natCast, List.length_append, List.length_cons, List.length_nil, meet_self]
      rw [putIn _ _ _ _ _ _ _ _ _ (by rw [List.length_append]; omega), flag_, p1 (by simp only [List.length_append, b2]; omega)]
      simp (disch := first | omega | (simp only [List.length_append, List.length_cons, List.length_nil, List.length_set, List.length_take, List.length_drop, List.length_replicate]; omega) | fail) only [cond_t, cond_f, dt, df, w64, wu64, w8, ble_t, ble_f, ieqt, ieqf, inet, inef, Bool.not_true, Bool.not_false, Bool.true_and, Bool.and_true, Bool.false_and, Bool.and_false, Bool.not_not, dTrue, dFalse, Int.toNat_natCast, List.length_append, List.length_cons, List.length_nil, meet_self]
      have ih := putL l hl ns hn k n (i + 1) (by omega) (by omega)
      rw [encs, encRun] at ih
      simp only [← List.append_assoc] at ih
      exact ih
    · obtain rfl : i = l.length := by omega
      simp (disch := first | omega | (simp only [List.length_append, List.length_cons, List.length_nil, List.length_set, List.length_take, List.length_drop, List.length_replicate]; omega) | fail) only [cond_t, cond_f, dt, df, w64, wu64, w8, ble_t, ble_f, ieqt, ieqf, inet, inef, Bool.not_true, Bool.not_false, Bool.true_and, Bool.and_true, Bool.false_and, Bool.and_false, Bool.not_not, dTrue, dFalse, Int.toNat_natCast, List.length_append, List.length_cons, List.length_nil, meet_self]
theorem runsPut_ (l : List Ru) (hl : l.length ≤ 300) (ns : List Int) (hn : ns.length ≤ 1000) (k : List Int → Option Bool) : runs_Put ns l k = k (ns ++ bts (u64 (l.length : Int)) 2 ++ encs l l.length) := by
  unfold runs_Put runs_Put.body
  rw [octet_Put_ (by omega), if_neg (by omega)]
  have := putL l hl (ns ++ bts (u64 (l.length : Int)) 2) (by rw [List.length_append, bts_len]; omega) (fun ns305 => k ns305) ROUNDS 0 (by omega) (by unfold ROUNDS; omega)
  rw [encs, List.append_nil] at this
  exact this
theorem rputL (l : List Ru) (hl : l.length ≤ 300) (ns : List Int) (hn : ns.length ≤ 2000) (k : List Int → Option Bool) : ∀ (n i : Nat), i ≤ l.length → l.length - i < n → ref13_Put_L0 n l (i : Int) (ns ++ encs l i) k = k (ns ++ encs l l.length)
  | 0, i, _, h => by omega
  | n + 1, i, h0, h1 => by
    rw [ref13_Put_L0]
    unfold ref13_Put_L0.body
    have he := encs_len l i
    by_cases h : i < l.length
    · have b2 : ∀ u, (bts u 2).length = 2 := fun u => bts_len u 2
      simp (disch := first | omega | (simp only [List.length_append, List.length_cons, List.length_nil, List.length_set, List.length_take, List.length_drop, List.length_replicate]; omega) | fail) only [cond_t, cond_f, dt, df, w64, wu64, w8, ble_t, ble_f, ieqt, ieqf, inet, inef, Bool.not_true, Bool.not_false, Bool.true_and, Bool.and_true, Bool.false_and, Bool.and_false, Bool.not_not, dTrue, dFalse, Int.toNat_natCast, List.length_append, List.length_cons, List.length_nil, meet_self]
      rw [q2 (by rw [List.length_append]; omega), q2 (by simp only [List.length_append, b2]; omega), q2 (by simp only [List.length_append, b2]; omega), q2 (by simp only [List.length_append, b2]; omega), rflag_, q1 (by simp only [List.length_append, b2]; omega)]
      have ih := rputL l hl ns hn k n (i + 1) (by omega) (by omega)
      rw [encs, encRun] at ih
      simp only [← List.append_assoc] at ih
      exact ih
    · obtain rfl : i = l.length := by omega
      simp (disch := first | omega | (simp only [List.length_append, List.length_cons, List.length_nil, List.length_set, List.length_take, List.length_drop, List.length_replicate]; omega) | fail) only [cond_t, cond_f, dt, df, w64, wu64, w8, ble_t, ble_f, ieqt, ieqf, inet, inef, Bool.not_true, Bool.not_false, Bool.true_and, Bool.and_true, Bool.false_and, Bool.and_false, Bool.not_not, dTrue, dFalse, Int.toNat_natCast, List.length_append, List.length_cons, List.length_nil, meet_self]
theorem rrunsPut_ (l : List Ru) (hl : l.length ≤ 300) (ns : List Int) (hn : ns.length ≤ 1000) (k : List Int → Option Bool) : ref13_Put ns l k = k (ns ++ bts (u64 (l.length : Int)) 2 ++ encs l l.length) := by
  unfold ref13_Put ref13_Put.body
  rw [rput_ (by omega), if_neg (by omega)]
  have := rputL l hl (ns ++ bts (u64 (l.length : Int)) 2) (by rw [List.length_append, bts_len]; omega) (fun ns305 => k ns305) ROUNDS 0 (by omega) (by unfold ROUNDS; omega)
  rw [encs, List.append_nil] at this
  exact this
/-- five numbers -/
structure Five where
  a : Int
  b : Int
  c : Int
  d : Int
  e : Int
  p : Int
  bad : Bool
def five (ns : List Int) (a : Int) (bad : Bool) : Five :=
  let r1 := rd ns 2 a bad
  let r2 := rd ns 2 r1.2.1 r1.2.2
  let r3 := rd ns 2 r2.2.1 r2.2.2
  let r4 := rd ns 2 r3.2.1 r3.2.2
  let r5 := rd ns 1 r4.2.1 r4.2.2
  ⟨r1.1, r2.1, r3.1, r4.1, r5.1, r5.2.1, r5.2.2⟩
theorem five_at {ns : List Int} {a : Int} {bad : Bool} (ha : 0 ≤ a ∧ a ≤ (ns.length : Int)) : 0 ≤ (five ns a bad).p ∧ (five ns a bad).p ≤ (ns.length : Int) := by
  unfold five
  exact rd_at (rd_at (rd_at (rd_at (rd_at ha))))
/-- the next table: an error's number, where the reader is, the table -/
def getS (ns : List Int) : Nat → Int → Bool → List Ru → Int × Int × Bool × List Ru
  | 0, a, bad, out => (0, a, bad, out)
  | m + 1, a, bad, out =>
    let f := five ns a bad
    if f.bad = true then (5, f.p, f.bad, []) else if f.e > 1 then (3, f.p, f.bad, []) else getS ns m f.p f.bad (out ++ [(f.a, f.b, f.c, f.e == 1, f.d, ())])
theorem nums_ {ns : List Int} (h : bytesOk ns) (hl : ns.length ≤ 100000) {a : Int} (ha : 0 ≤ a ∧ a ≤ (ns.length : Int)) (bad : Bool) (k : Rd → List Int → Option Bool) : ref13_Nums (ns, (a, (bad, ()))) [2, 2, 2, 2, 1] k = k (ns, ((five ns a bad).p, ((five ns a bad).bad, ()))) [(five ns a bad).a, (five ns a bad).b, (five ns a bad).c, (five ns a bad).d, (five ns a bad).e] := by
  unfold ref13_Nums ref13_Nums.body five
  obtain ⟨R, hR⟩ : ∃ R, ROUNDS = R + 1 + 1 + 1 + 1 + 1 + 1 := ⟨1180591620717411303418, rfl⟩
  rw [hR]
  have g0 : (0 : Int).toNat = 0 := rfl
  have g1 : (1 : Int).toNat = 1 := rfl
  have g2 : (2 : Int).toNat = 2 := rfl
  have g3 : (3 : Int).toNat = 3 := rfl
  have g4 : (4 : Int).toNat = 4 := rfl
  rw [ref13_Nums_L0]
  unfold ref13_Nums_L0.body
  simp (disch := first | omega | (simp only [List.length_append, List.length_cons, List.length_nil, List.length_set, List.length_take, List.length_drop, List.length_replicate]; omega) | fail) only [cond_t, cond_f, dt, df, w64, wu64, w8, ble_t, ble_f, ieqt, ieqf, inet, inef, Bool.not_true, Bool.not_false, Bool.true_and, Bool.and_true, Bool.false_and, Bool.and_false, Bool.not_not, dTrue, dFalse, Int.toNat_natCast, List.length_append, List.length_cons, List.length_nil, meet_self, g0, List.getD_cons_zero]
  rw [rd_rnum h hl ha]
  simp (disch := first | omega | (simp only [List.length_append, List.length_cons, List.length_nil, List.length_set, List.length_take, List.length_drop, List.length_replicate]; omega) | fail) only [cond_t, cond_f, dt, df, w64, wu64, w8, ble_t, ble_f, ieqt, ieqf, inet, inef, Bool.not_true, Bool.not_false, Bool.true_and, Bool.and_true, Bool.false_and, Bool.and_false, Bool.not_not, dTrue, dFalse, Int.toNat_natCast, List.length_append, List.length_cons, List.length_nil, meet_self]
  rw [show (0 : Int) + 1 = 1 from rfl, ref13_Nums_L0]
  unfold ref13_Nums_L0.body
  simp (disch := first | omega | (simp only [List.length_append, List.length_cons, List.length_nil, List.length_set, List.length_take, List.length_drop, List.length_replicate]; omega) | fail) only [cond_t, cond_f, dt, df, w64, wu64, w8, ble_t, ble_f, ieqt, ieqf, inet, inef, Bool.not_true, Bool.not_false, Bool.true_and, Bool.and_true, Bool.false_and, Bool.and_false, Bool.not_not, dTrue, dFalse, Int.toNat_natCast, List.length_append, List.length_cons, List.length_nil, meet_self, g1, List.getD_cons_succ, List.getD_cons_zero]
  rw [rd_rnum h hl (rd_at ha)]
  simp (disch := first | omega | (simp only [List.length_append, List.length_cons, List.length_nil, List.length_set, List.length_take, List.length_drop, List.length_replicate]; omega) | fail) only [cond_t, cond_f, dt, df, w64, wu64, w8, ble_t, ble_f, ieqt, ieqf, inet, inef, Bool.not_true, Bool.not_false, Bool.true_and, Bool.and_true, Bool.false_and, Bool.and_false, Bool.not_not, dTrue, dFalse, Int.toNat_natCast, List.length_append, List.length_cons, List.length_nil, meet_self]
  rw [show (1 : Int) + 1 = 2 from rfl, ref13_Nums_L0]
  unfold ref13_Nums_L0.body
  simp (disch := first | omega | (simp only [List.length_append, List.length_cons, List.length_nil, List.length_set, List.length_take, List.length_drop, List.length_replicate]; omega) | fail) only [cond_t, cond_f, dt, df, w64, wu64, w8, ble_t, ble_f, ieqt, ieqf, inet, inef, Bool.not_true, Bool.not_false, Bool.true_and, Bool.and_true, Bool.false_and, Bool.and_false, Bool.not_not, dTrue, dFalse, Int.toNat_natCast, List.length_append, List.length_cons, List.length_nil, meet_self, g2, List.getD_cons_succ, List.getD_cons_zero]
  rw [rd_rnum h hl (rd_at (rd_at ha))]
  simp (disch := first | omega | (simp only [List.length_append, List.length_cons, List.length_nil, List.length_set, List.length_take, List.length_drop, List.length_replicate]; omega) | fail) only [cond_t, cond_f, dt, df, w64, wu64, w8, ble_t, ble_f, ieqt, ieqf, inet, inef, Bool.not_true, Bool.not_false, Bool.true_and, Bool.and_true, Bool.false_and, Bool.and_false, Bool.not_not, dTrue, dFalse, Int.toNat_natCast, List.length_append, List.length_cons, List.length_nil, meet_self]
  rw [show (2 : Int) + 1 = 3 from rfl, ref13_Nums_L0]
  unfold ref13_Nums_L0.body
  simp (disch := first | omega | (simp only [List.length_append, List.length_cons, List.length_nil, List.length_set, List.length_take, List.length_drop, List.length_replicate]; omega) | fail) only [cond_t, cond_f, dt, df, w64, wu64, w8, ble_t, ble_f, ieqt, ieqf, inet, inef, Bool.not_true, Bool.not_false, Bool.true_and, Bool.and_true, Bool.false_and, Bool.and_false, Bool.not_not, dTrue, dFalse, Int.toNat_natCast, List.length_append, List.length_cons, List.length_nil, meet_self, g3, List.getD_cons_succ, List.getD_cons_zero]
  rw [rd_rnum h hl (rd_at (rd_at (rd_at ha)))]
  simp (disch := first | omega | (simp only [List.length_append, List.length_cons, List.length_nil, List.length_set, List.length_take, List.length_drop, List.length_replicate]; omega) | fail) only [cond_t, cond_f, dt, df, w64, wu64, w8, ble_t, ble_f, ieqt, ieqf, inet, inef, Bool.not_true, Bool.not_false, Bool.true_and, Bool.and_true, Bool.false_and, Bool.and_false, Bool.not_not, dTrue, dFalse, Int.toNat_natCast, List.length_append, List.length_cons, List.length_nil, meet_self]
  rw [show (3 : Int) + 1 = 4 from rfl, ref13_Nums_L0]
  unfold ref13_Nums_L0.body
  simp (disch := first | omega | (simp only [List.length_append, List.length_cons, List.length_nil, List.length_set, List.length_take, List.length_drop, List.length_replicate]; omega) | fail) only [cond_t, cond_f, dt, df, w64, wu64, w8, ble_t, ble_f, ieqt, ieqf, inet, inef, Bool.not_true, Bool.not_false, Bool.true_and, Bool.and_true, Bool.false_and, Bool.and_false, Bool.not_not, dTrue, dFalse, Int.toNat_natCast, List.length_append, List.length_cons, List.length_nil, meet_self, g4, List.getD_cons_succ, List.getD_cons_zero]
  rw [rd_rnum h hl (rd_at (rd_at (rd_at (rd_at ha))))]
  simp (disch := first | omega | (simp only [List.length_append, List.length_cons, List.length_nil, List.length_set, List.length_take, List.length_drop, List.length_replicate]; omega) | fail) only [cond_t, cond_f, dt, df, w64, wu64, w8, ble_t, ble_f, ieqt, ieqf, inet, inef, Bool.not_true, Bool.not_false, Bool.true_and, Bool.and_true, Bool.false_and, Bool.and_false, Bool.not_not, dTrue, dFalse, Int.toNat_natCast, List.length_append, List.length_cons, List.length_nil, meet_self]
  rw [show (4 : Int) + 1 = 5 from rfl, ref13_Nums_L0]
  unfold ref13_Nums_L0.body
  simp (disch := first | omega | (simp only [List.length_append, List.length_cons, List.length_nil, List.length_set, List.length_take, List.length_drop, List.length_replicate]; omega) | fail) only [cond_t, cond_f, dt, df, w64, wu64, w8, ble_t, ble_f, ieqt, ieqf, inet, inef, Bool.not_true, Bool.not_false, Bool.true_and, Bool.and_true, Bool.false_and, Bool.and_false, Bool.not_not, dTrue, dFalse, Int.toNat_natCast, List.length_append, List.length_cons, List.length_nil, meet_self]
  rfl
theorem five_reads {ns : List Int} (h : bytesOk ns) (hl : ns.length ≤ 100000) {a : Int} (ha : 0 ≤ a ∧ a ≤ (ns.length : Int)) (bad : Bool) (K : Int → Int → Int → Int → Int → Int → Bool → Bool → List Int → Option Bool) :
    (octet_Reader_Num 2 a true bad ns fun v1 a1 l1 b1 n1 => octet_Reader_Num 2 a1 l1 b1 n1 fun v2 a2 l2 b2 n2 => octet_Reader_Num 2 a2 l2 b2 n2 fun v3 a3 l3 b3 n3 => octet_Reader_Num 2 a3 l3 b3 n3 fun v4 a4 l4 b4 n4 => octet_Reader_Num 1 a4 l4 b4 n4 fun v5 a5 l5 b5 n5 => K v1 v2 v3 v4 v5 a5 l5 b5 n5) = K (five ns a bad).a (five ns a bad).b (five ns a bad).c (five ns a bad).d (five ns a bad).e (five ns a bad).p true (five ns a bad).bad ns := by
  rw [rd_num h hl ha, rd_num h hl (rd_at ha), rd_num h hl (rd_at (rd_at ha)), rd_num h hl (rd_at (rd_at (rd_at ha))), rd_num h hl (rd_at (rd_at (rd_at (rd_at ha))))]
  rfl
theorem getL {ns : List Int} (h : bytesOk ns) (hl : ns.length ≤ 100000) (k1 : Int → Int → Bool → Bool → List Int → Option Bool) (k2 : Int → Bool → Bool → List Int → List Ru → Option Bool) : ∀ (n m i : Nat) (a : Int) (bad : Bool) (out : List Ru), 0 ≤ a ∧ a ≤ (ns.length : Int) → i + m ≤ 65536 → out.length ≤ i → m < n →
    runs_Get_L0 n ((i + m : Nat) : Int) (i : Int) a true bad ns out k1 k2 = if (getS ns m a bad out).1 = 0 then k2 (getS ns m a bad out).2.1 true (getS ns m a bad out).2.2.1 ns (getS ns m a bad out).2.2.2 else k1 (getS ns m a bad out).1 (getS ns m a bad out).2.1 true (getS ns m a bad out).2.2.1 ns
  | 0, m, i, a, bad, out, _, _, _, g => by omega
  | n + 1, 0, i, a, bad, out, ha, h1, h2, h3 => by
    rw [runs_Get_L0]
    unfold runs_Get_L0.body getS
    simp (disch := first | omega | (simp only [List.length_append, List.length_cons, List.length_nil, List.length_set, List.length_take, List.length_drop, List.length_replicate]; omega) | fail) only [cond_t, cond_f, dt, df, w64, wu64, w8, ble_t, ble_f, ieqt, ieqf, inet, inef, Bool.not_true, Bool.not_false, Bool.true_and, Bool.and_true, Bool.false_and, Bool.and_false, Bool.not_not, dTrue, dFalse, Int.toNat_natCast, List.length_append, List.length_cons, List.length_nil, meet_self]
    rfl
  | n + 1, m + 1, i, a, bad, out, ha, h1, h2, h3 => by
    rw [runs_Get_L0]
    unfold runs_Get_L0.body octet_Reader_Bad octet_Reader_Bad.body
    have hf := five_at (bad := bad) ha
    simp (disch := first | omega | (simp only [List.length_append, List.length_cons, List.length_nil, List.length_set, List.length_take, List.length_drop, List.length_replicate]; omega) | fail) only [cond_t, cond_f, dt, df, w64, wu64, w8, ble_t, ble_f, ieqt, ieqf, inet, inef, Bool.not_true, Bool.not_false, Bool.true_and, Bool.and_true, Bool.false_and, Bool.and_false, Bool.not_not, dTrue, dFalse, Int.toNat_natCast, List.length_append, List.length_cons, List.length_nil, meet_self]
    rw [five_reads h hl ha]
    rw [getS]
    generalize five ns a bad = f at hf ⊢
    by_cases c1 : f.bad = true
    · rw [if_pos c1, c1]
      simp (disch := first | omega | (simp only [List.length_append, List.length_cons, List.length_nil, List.length_set, List.length_take, List.length_drop, List.length_replicate]; omega) | fail) only [cond_t, cond_f, dt, df, w64, wu64, w8, ble_t, ble_f, ieqt, ieqf, inet, inef, Bool.not_true, Bool.not_false, Bool.true_and, Bool.and_true, Bool.false_and, Bool.and_false, Bool.not_not, dTrue, dFalse, Int.toNat_natCast, List.length_append, List.length_cons, List.length_nil, meet_self]
      rfl
    · rw [if_neg c1]
      rw [Bool.not_eq_true] at c1
      rw [c1]
      by_cases c2 : f.e > 1
      · rw [if_pos c2]
        simp (disch := first | omega | (simp only [List.length_append, List.length_cons, List.length_nil, List.length_set, List.length_take, List.length_drop, List.length_replicate]; omega) | fail) only [cond_t, cond_f, dt, df, w64, wu64, w8, ble_t, ble_f, ieqt, ieqf, inet, inef, Bool.not_true, Bool.not_false, Bool.true_and, Bool.and_true, Bool.false_and, Bool.and_false, Bool.not_not, dTrue, dFalse, Int.toNat_natCast, List.length_append, List.length_cons, List.length_nil, meet_self]
        rfl
      · rw [if_neg c2]
        simp (disch := first | omega | (simp only [List.length_append, List.length_cons, List.length_nil, List.length_set, List.length_take, List.length_drop, List.length_replicate]; omega) | fail) only [cond_t, cond_f, dt, df, w64, wu64, w8, ble_t, ble_f, ieqt, ieqf, inet, inef, Bool.not_true, Bool.not_false, Bool.true_and, Bool.and_true, Bool.false_and, Bool.and_false, Bool.not_not, dTrue, dFalse, Int.toNat_natCast, List.length_append, List.length_cons, List.length_nil, meet_self]
        have ih := getL h hl k1 k2 n m (i + 1) f.p false (out ++ [(f.a, f.b, f.c, f.e == 1, f.d, ())]) hf (by omega) (by simp; omega) (by omega)
        rw [show i + 1 + m = i + (m + 1) by omega] at ih
        exact ih
theorem rgetL {ns : List Int} (h : bytesOk ns) (hl : ns.length ≤ 100000) (z : Int) (y : Bool) (k1 : Int → List Int → Int → Bool → Option Bool) (k2 : Rd → Int → Bool → List Ru → Option Bool) : ∀ (n m i : Nat) (a : Int) (bad : Bool) (out : List Ru), 0 ≤ a ∧ a ≤ (ns.length : Int) → i + m ≤ 65536 → out.length ≤ i → m < n →
    ref13_Get_L0 n ((i + m : Nat) : Int) (i : Int) (ns, (a, (bad, ()))) z y out k1 k2 = if (getS ns m a bad out).1 = 0 then k2 (ns, ((getS ns m a bad out).2.1, ((getS ns m a bad out).2.2.1, ()))) z y (getS ns m a bad out).2.2.2 else k1 (getS ns m a bad out).1 ns (getS ns m a bad out).2.1 (getS ns m a bad out).2.2.1
  | 0, m, i, a, bad, out, _, _, _, g => by omega
  | n + 1, 0, i, a, bad, out, ha, h1, h2, h3 => by
    rw [ref13_Get_L0]
    unfold ref13_Get_L0.body getS
    simp (disch := first | omega | (simp only [List.length_append, List.length_cons, List.length_nil, List.length_set, List.length_take, List.length_drop, List.length_replicate]; omega) | fail) only [cond_t, cond_f, dt, df, w64, wu64, w8, ble_t, ble_f, ieqt, ieqf, inet, inef, Bool.not_true, Bool.not_false, Bool.true_and, Bool.and_true, Bool.false_and, Bool.and_false, Bool.not_not, dTrue, dFalse, Int.toNat_natCast, List.length_append, List.length_cons, List.length_nil, meet_self]
    rfl
  | n + 1, m + 1, i, a, bad, out, ha, h1, h2, h3 => by
    rw [ref13_Get_L0]
    unfold ref13_Get_L0.body
    have hf := five_at (bad := bad) ha
    simp (disch := first | omega | (simp only [List.length_append, List.length_cons, List.length_nil, List.length_set, List.length_take, List.length_drop, List.length_replicate]; omega) | fail) only [cond_t, cond_f, dt, df, w64, wu64, w8, ble_t, ble_f, ieqt, ieqf, inet, inef, Bool.not_true, Bool.not_false, Bool.true_and, Bool.and_true, Bool.false_and, Bool.and_false, Bool.not_not, dTrue, dFalse, Int.toNat_natCast, List.length_append, List.length_cons, List.length_nil, meet_self]
    rw [nums_ h hl ha]
    rw [getS]
    generalize five ns a bad = f at hf ⊢
    by_cases c1 : f.bad = true
    · rw [if_pos c1, c1]
      simp (disch := first | omega | (simp only [List.length_append, List.length_cons, List.length_nil, List.length_set, List.length_take, List.length_drop, List.length_replicate]; omega) | fail) only [cond_t, cond_f, dt, df, w64, wu64, w8, ble_t, ble_f, ieqt, ieqf, inet, inef, Bool.not_true, Bool.not_false, Bool.true_and, Bool.and_true, Bool.false_and, Bool.and_false, Bool.not_not, dTrue, dFalse, Int.toNat_natCast, List.length_append, List.length_cons, List.length_nil, meet_self]
      rfl
    · rw [if_neg c1]
      rw [Bool.not_eq_true] at c1
      rw [c1]
      by_cases c2 : f.e > 1
      · rw [if_pos c2]
        simp (disch := first | omega | (simp only [List.length_append, List.length_cons, List.length_nil, List.length_set, List.length_take, List.length_drop, List.length_replicate]; omega) | fail) only [cond_t, cond_f, dt, df, w64, wu64, w8, ble_t, ble_f, ieqt, ieqf, inet, inef, Bool.not_true, Bool.not_false, Bool.true_and, Bool.and_true, Bool.false_and, Bool.and_false, Bool.not_not, dTrue, dFalse, Int.toNat_natCast, List.length_append, List.length_cons, List.length_nil, meet_self, List.getD_cons_succ, List.getD_cons_zero]
        rfl
      · rw [if_neg c2]
        simp (disch := first | omega | (simp only [List.length_append, List.length_cons, List.length_nil, List.length_set, List.length_take, List.length_drop, List.length_replicate]; omega) | fail) only [cond_t, cond_f, dt, df, w64, wu64, w8, ble_t, ble_f, ieqt, ieqf, inet, inef, Bool.not_true, Bool.not_false, Bool.true_and, Bool.and_true, Bool.false_and, Bool.and_false, Bool.not_not, dTrue, dFalse, Int.toNat_natCast, List.length_append, List.length_cons, List.length_nil, meet_self, List.getD_cons_succ, List.getD_cons_zero]
        have ih := rgetL h hl z y k1 k2 n m (i + 1) f.p false (out ++ [(f.a, f.b, f.c, f.e == 1, f.d, ())]) hf (by omega) (by simp; omega) (by omega)
        rw [show i + 1 + m = i + (m + 1) by omega] at ih
        exact ih
theorem getS_len (ns : List Int) : ∀ (m : Nat) (a : Int) (bad : Bool) (out : List Ru), (getS ns m a bad out).2.2.2.length ≤ out.length + m
  | 0, a, bad, out => by rw [getS]; exact Nat.le_refl _
  | m + 1, a, bad, out => by
    rw [getS]
    split
    · exact Nat.zero_le _
    · split
      · exact Nat.zero_le _
      · have := getS_len ns m (five ns a bad).p (five ns a bad).bad (out ++ [((five ns a bad).a, (five ns a bad).b, (five ns a bad).c, (five ns a bad).e == 1, (five ns a bad).d, ())])
        simp at this
        omega
/-- the whole of it -/
def tab (ns : List Int) : Int × Int × Bool × List Ru :=
  let r := rd ns 2 0 false
  let g := getS ns r.1.toNat r.2.1 r.2.2 []
  if g.1 = 0 then (if g.2.2.1 = true then (5, g.2.1, true, []) else (0, g.2.1, g.2.2.1, g.2.2.2)) else (g.1, g.2.1, g.2.2.1, [])
theorem get_ {ns : List Int} (h : bytesOk ns) (hl : ns.length ≤ 1000) (k : Int → Int → Bool → Bool → List Int → List Ru → Option Bool) : runs_Get 0 true false ns k = k (tab ns).1 (tab ns).2.1 true (tab ns).2.2.1 ns (tab ns).2.2.2 := by
  unfold runs_Get runs_Get.body tab octet_Reader_Bad octet_Reader_Bad.body
  have hv := rd_lt h (w := 2) (a := 0) (bad := false) ⟨by omega, by omega⟩ (by omega)
  rw [rd_num h (by omega) ⟨by omega, by omega⟩]
  have ha := rd_at (ns := ns) (w := 2) (a := 0) (bad := false) ⟨by omega, by omega⟩
  dsimp only
  generalize rd ns 2 0 false = r at hv ha ⊢
  have hv2 : r.1 < 65536 := hv.2
  have := getL h (by omega) (fun n893 n894 b895 b896 ns897 => k n893 n894 b895 b896 ns897 []) (fun n898 b899 b900 ns901 ts902 => cond_ (!!b899) (cond_ b900 (k 5 n898 b899 b900 ns901 []) (k 0 n898 b899 b900 ns901 ts902)) (cond_ true (k 5 n898 b899 b900 ns901 []) (k 0 n898 b899 b900 ns901 ts902))) ROUNDS r.1.toNat 0 r.2.1 r.2.2 [] ha (by omega) (by simp) (by unfold ROUNDS; omega)
  rw [show ((0 + r.1.toNat : Nat) : Int) = r.1 by omega] at this
  refine this.trans ?_
  generalize getS ns r.1.toNat r.2.1 r.2.2 [] = g
  by_cases c : g.1 = 0
  · rw [if_pos c, if_pos c]
    by_cases c2 : g.2.2.1 = true
    · rw [if_pos c2, c2]
      simp (disch := first | omega | (simp only [List.length_append, List.length_cons, List.length_nil, List.length_set, List.length_take, List.length_drop, List.length_replicate]; omega) | fail) only [cond_t, cond_f, dt, df, w64, wu64, w8, ble_t, ble_f, ieqt, ieqf, inet, inef, Bool.not_true, Bool.not_false, Bool.true_and, Bool.and_true, Bool.false_and, Bool.and_false, Bool.not_not, dTrue, dFalse, Int.toNat_natCast, List.length_append, List.length_cons, List.length_nil, meet_self]
    · rw [if_neg c2]
      rw [Bool.not_eq_true] at c2
      rw [c2]
      simp (disch := first | omega | (simp only [List.length_append, List.length_cons, List.length_nil, List.length_set, List.length_take, List.length_drop, List.length_replicate]; omega) | fail) only [cond_t, cond_f, dt, df, w64, wu64, w8, ble_t, ble_f, ieqt, ieqf, inet, inef, Bool.not_true, Bool.not_false, Bool.true_and, Bool.and_true, Bool.false_and, Bool.and_false, Bool.not_not, dTrue, dFalse, Int.toNat_natCast, List.length_append, List.length_cons, List.length_nil, meet_self]
  · rw [if_neg c, if_neg c]
theorem rget_ {ns : List Int} (h : bytesOk ns) (hl : ns.length ≤ 1000) (k : Rd → Int → List Ru → Option Bool) : ref13_Get (ns, (0, (false, ()))) k = k (ns, ((tab ns).2.1, ((tab ns).2.2.1, ()))) (tab ns).1 (tab ns).2.2.2 := by
  unfold ref13_Get ref13_Get.body tab
  have hv := rd_lt h (w := 2) (a := 0) (bad := false) ⟨by omega, by omega⟩ (by omega)
  rw [rd_rnum h (by omega) ⟨by omega, by omega⟩]
  have ha := rd_at (ns := ns) (w := 2) (a := 0) (bad := false) ⟨by omega, by omega⟩
  dsimp only
  generalize rd ns 2 0 false = r at hv ha ⊢
  have hv2 : r.1 < 65536 := hv.2
  have := rgetL h (by omega) 0 false (fun n784 l785 n786 b787 => k (l785, (n786, (b787, ()))) n784 []) (fun t788 n789 b790 ts791 => cond_ t788.2.2.1 (k (t788.1, (t788.2.1, (t788.2.2.1, ()))) 5 []) (k (t788.1, (t788.2.1, (t788.2.2.1, ()))) 0 ts791)) ROUNDS r.1.toNat 0 r.2.1 r.2.2 [] ha (by omega) (by simp) (by unfold ROUNDS; omega)
  rw [show ((0 + r.1.toNat : Nat) : Int) = r.1 by omega] at this
  refine this.trans ?_
  generalize getS ns r.1.toNat r.2.1 r.2.2 [] = g
  by_cases c : g.1 = 0
  · rw [if_pos c, if_pos c]
    by_cases c2 : g.2.2.1 = true
    · rw [if_pos c2, c2]
      simp (disch := first | omega | (simp only [List.length_append, List.length_cons, List.length_nil, List.length_set, List.length_take, List.length_drop, List.length_replicate]; omega) | fail) only [cond_t, cond_f, dt, df, w64, wu64, w8, ble_t, ble_f, ieqt, ieqf, inet, inef, Bool.not_true, Bool.not_false, Bool.true_and, Bool.and_true, Bool.false_and, Bool.and_false, Bool.not_not, dTrue, dFalse, Int.toNat_natCast, List.length_append, List.length_cons, List.length_nil, meet_self]
    · rw [if_neg c2]
      rw [Bool.not_eq_true] at c2
      rw [c2]
      simp (disch := first | omega | (simp only [List.length_append, List.length_cons, List.length_nil, List.length_set, List.length_take, List.length_drop, List.length_replicate]; omega) | fail) only [cond_t, cond_f, dt, df, w64, wu64, w8, ble_t, ble_f, ieqt, ieqf, inet, inef, Bool.not_true, Bool.not_false, Bool.true_and, Bool.and_true, Bool.false_and, Bool.and_false, Bool.not_not, dTrue, dFalse, Int.toNat_natCast, List.length_append, List.length_cons, List.length_nil, meet_self]
  · rw [if_neg c, if_neg c]
theorem nobody (k : Int → List Ru → Option Bool) : runs_Getv1 k = k 5 [] := by
  unfold runs_Getv1 runs_Getv1.body octet_Reader_Numv1 octet_Reader_Numv1.body octet_numberv1 octet_numberv1.body octet_Reader_takev1 octet_Reader_takev1.body octet_Reader_Badv1 octet_Reader_Badv1.body octet_Reader_spoilv1 octet_Reader_spoilv1.body
  obtain ⟨R, hR⟩ : ∃ R, ROUNDS = R + 1 := ⟨1180591620717411303423, rfl⟩
  rw [hR]
  simp (disch := first | omega | (simp only [List.length_append, List.length_cons, List.length_nil, List.length_set, List.length_take, List.length_drop, List.length_replicate]; omega) | fail) only [cond_t, cond_f, dt, df, w64, wu64, w8, ble_t, ble_f, ieqt, ieqf, inet, inef, Bool.not_true, Bool.not_false, Bool.true_and, Bool.and_true, Bool.false_and, Bool.and_false, Bool.not_not, dTrue, dFalse, Int.toNat_natCast, List.length_append, List.length_cons, List.length_nil, meet_self]
  rw [octet_numberv1_L0]
  unfold octet_numberv1_L0.body
  simp (disch := first | omega | (simp only [List.length_append, List.length_cons, List.length_nil, List.length_set, List.length_take, List.length_drop, List.length_replicate]; omega) | fail) only [cond_t, cond_f, dt, df, w64, wu64, w8, ble_t, ble_f, ieqt, ieqf, inet, inef, Bool.not_true, Bool.not_false, Bool.true_and, Bool.and_true, Bool.false_and, Bool.and_false, Bool.not_not, dTrue, dFalse, Int.toNat_natCast, List.length_append, List.length_cons, List.length_nil, meet_self]
  rw [runs_Getv1_L0]
  unfold runs_Getv1_L0.body
  simp (disch := first | omega | (simp only [List.length_append, List.length_cons, List.length_nil, List.length_set, List.length_take, List.length_drop, List.length_replicate]; omega) | fail) only [cond_t, cond_f, dt, df, w64, wu64, w8, ble_t, ble_f, ieqt, ieqf, inet, inef, Bool.not_true, Bool.not_false, Bool.true_and, Bool.and_true, Bool.false_and, Bool.and_false, Bool.not_not, dTrue, dFalse, Int.toNat_natCast, List.length_append, List.length_cons, List.length_nil, meet_self]
theorem bytesOk_of {ns : List Int} {e : Nat} (h : okD (.sl e (.int .u8)) ns) : bytesOk ns := fun x hx => by
  have := okD_int.1 ((okD_sl.1 h).2 x hx)
  simp [Lit.wf, IntKind.min, IntKind.max, IntKind.bits, IntKind.signed, i_] at this
  omega
theorem holds (l : List Ru) (ns : List Int) (h0 : okD (.sl 50 (.st [(.int .i64), (.int .i64), (.int .i64), .bool, (.int .i64)])) l) (h1 : okD (.sl 5 (.int .u8)) ns) : law13_RunsOctets l ns (fun y => some y) = some true := by
  have hb := bytesOk_of h1
  unfold law13_RunsOctets law13_RunsOctets.body law13_known octet_New octet_New.body octet_Reader_At octet_Reader_At.body
  dsimp only
  by_cases c1 : (l.length : Int) > 300
  · simp (disch := first | omega | (simp only [List.length_append, List.length_cons, List.length_nil, List.length_set, List.length_take, List.length_drop, List.length_replicate]; omega) | fail) only [cond_t, cond_f, dt, df, w64, wu64, w8, ble_t, ble_f, ieqt, ieqf, inet, inef, Bool.not_true, Bool.not_false, Bool.true_and, Bool.and_true, Bool.false_and, Bool.and_false, Bool.not_not, dTrue, dFalse, Int.toNat_natCast, List.length_append, List.length_cons, List.length_nil, meet_self]
  · by_cases c2 : (ns.length : Int) > 1000
    · simp (disch := first | omega | (simp only [List.length_append, List.length_cons, List.length_nil, List.length_set, List.length_take, List.length_drop, List.length_replicate]; omega) | fail) only [cond_t, cond_f, dt, df, w64, wu64, w8, ble_t, ble_f, ieqt, ieqf, inet, inef, Bool.not_true, Bool.not_false, Bool.true_and, Bool.and_true, Bool.false_and, Bool.and_false, Bool.not_not, dTrue, dFalse, Int.toNat_natCast, List.length_append, List.length_cons, List.length_nil, meet_self]
    · simp (disch := first | omega | (simp only [List.length_append, List.length_cons, List.length_nil, List.length_set, List.length_take, List.length_drop, List.length_replicate]; omega) | fail) only [cond_t, cond_f, dt, df, w64, wu64, w8, ble_t, ble_f, ieqt, ieqf, inet, inef, Bool.not_true, Bool.not_false, Bool.true_and, Bool.and_true, Bool.false_and, Bool.and_false, Bool.not_not, dTrue, dFalse, Int.toNat_natCast, List.length_append, List.length_cons, List.length_nil, meet_self]
      rw [runsPut_ l (by omega) ns (by omega), rrunsPut_ l (by omega) ns (by omega), seqt rfl]
      simp (disch := first | omega | (simp only [List.length_append, List.length_cons, List.length_nil, List.length_set, List.length_take, List.length_drop, List.length_replicate]; omega) | fail) only [cond_t, cond_f, dt, df, w64, wu64, w8, ble_t, ble_f, ieqt, ieqf, inet, inef, Bool.not_true, Bool.not_false, Bool.true_and, Bool.and_true, Bool.false_and, Bool.and_false, Bool.not_not, dTrue, dFalse, Int.toNat_natCast, List.length_append, List.length_cons, List.length_nil, meet_self, List.nil_append]
      rw [get_ hb (by omega), rget_ hb (by omega)]
      have hlen : (tab ns).2.2.2.length ≤ 100000 := by
        have hv := rd_lt hb (w := 2) (a := 0) (bad := false) ⟨by omega, by omega⟩ (by omega)
        have hv2 : (rd ns 2 0 false).1 < 65536 := hv.2
        unfold tab
        dsimp only
        have := getS_len ns (rd ns 2 0 false).1.toNat (rd ns 2 0 false).2.1 (rd ns 2 0 false).2.2 []
        simp at this
        split
        · split
          · exact Nat.zero_le _
          · dsimp only
            omega
        · exact Nat.zero_le _
      rw [ref13_Same_ _ _ hlen, dt rfl]
      simp (disch := first | omega | (simp only [List.length_append, List.length_cons, List.length_nil, List.length_set, List.length_take, List.length_drop, List.length_replicate]; omega) | fail) only [cond_t, cond_f, dt, df, w64, wu64, w8, ble_t, ble_f, ieqt, ieqf, inet, inef, Bool.not_true, Bool.not_false, Bool.true_and, Bool.and_true, Bool.false_and, Bool.and_false, Bool.not_not, dTrue, dFalse, Int.toNat_natCast, List.length_append, List.length_cons, List.length_nil, meet_self, nobody]
      by_cases c3 : (tab ns).1 = 0
      · simp (disch := first | omega | (simp only [List.length_append, List.length_cons, List.length_nil, List.length_set, List.length_take, List.length_drop, List.length_replicate]; omega) | fail) only [cond_t, cond_f, dt, df, w64, wu64, w8, ble_t, ble_f, ieqt, ieqf, inet, inef, Bool.not_true, Bool.not_false, Bool.true_and, Bool.and_true, Bool.false_and, Bool.and_false, Bool.not_not, dTrue, dFalse, Int.toNat_natCast, List.length_append, List.length_cons, List.length_nil, meet_self]
      · simp (disch := first | omega | (simp only [List.length_append, List.length_cons, List.length_nil, List.length_set, List.length_take, List.length_drop, List.length_replicate]; omega) | fail) only [cond_t, cond_f, dt, df, w64, wu64, w8, ble_t, ble_f, ieqt, ieqf, inet, inef, Bool.not_true, Bool.not_false, Bool.true_and, Bool.and_true, Bool.false_and, Bool.and_false, Bool.not_not, dTrue, dFalse, Int.toNat_natCast, List.length_append, List.length_cons, List.length_nil, meet_self]

end Go.Proofs.Ytbpjepcgokoaiaa.runsOctets
