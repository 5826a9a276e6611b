/- What the plain functions answer: the law, without program or memory. -/
import Derived.Test.YtpmgmpaodjcfjaaMG
import Derived.IntWalk
namespace Go.Proofs.Ytpmgmpaodjcfjaa.octetBack
open Go.AX Go.Proofs.Ytpmgmpaodjcfjaa.g
set_option linter.unusedVariables false
set_option linter.unusedSimpArgs false
theorem cond_ite (b : Bool) (x y : Option Bool) : cond_ b x y = if b = true then x else y := by cases b <;> rfl
@[simp] theorem cond_t (x y : Option Bool) : cond_ true x y = x := rfl
@[simp] theorem cond_f (x y : Option Bool) : cond_ false x y = y := rfl
theorem cond_pos {b : Bool} {x y : Option Bool} (h : b = true) : cond_ b x y = x := by rw [h]; rfl
theorem cond_neg {b : Bool} {x y : Option Bool} (h : b = false) : cond_ b x y = y := by rw [h]; rfl
@[simp] theorem meet_self (x : Option Bool) : meet x x = x := by
  cases x with
  | none => rfl
  | some a => simp [meet]
theorem w64 {n : Int} (h1 : -9223372036854775808 ≤ n) (h2 : n ≤ 9223372036854775807) : IntKind.wrap .i64 n = n := IntWalk.i64_in n ⟨h1, h2⟩
theorem w8 {n : Int} (h1 : 0 ≤ n) (h2 : n ≤ 255) : IntKind.wrap .u8 n = n := IntWalk.u8_in n ⟨h1, h2⟩
theorem wu64 {n : Int} (h1 : 0 ≤ n) (h2 : n ≤ 18446744073709551615) : IntKind.wrap .u64 n = n := IntWalk.u64_in n ⟨h1, h2⟩
theorem ble_t {a b : Nat} (h : a ≤ b) : Nat.ble a b = true := by rw [Nat.ble_eq]; exact h
theorem ok64 {n : Int} (h : okD (.int .i64) n) : -9223372036854775808 ≤ n ∧ n ≤ 9223372036854775807 := by
  have := okD_int.1 h
  simpa [Lit.wf, IntKind.min, IntKind.max, IntKind.bits, IntKind.signed, i_] using this
theorem not_t {p : Prop} [Decidable p] (h : ¬p) : (!decide p) = true := by simp [h]
theorem not_f {p : Prop} [Decidable p] (h : p) : (!decide p) = false := by simp [h]
def u64 (n : Int) : Int := n % 18446744073709551616
theorem wu64_eq (n : Int) : IntKind.wrap .u64 n = u64 n := by
  simp [IntKind.wrap, IntKind.bits, IntKind.signed, u64]
/-- the last bytes of a number -/
def bts (u : Int) : Nat → List Int
  | 0 => []
  | m + 1 => (u / 256 ^ m) % 256 :: bts u m
theorem bts_len (u : Int) : ∀ m, (bts u m).length = m
  | 0 => rfl
  | m + 1 => by simp [bts, bts_len u m]
theorem w8_eq (n : Int) : IntKind.wrap .u8 n = n % 256 := by
  simp [IntKind.wrap, IntKind.bits, IntKind.signed]
theorem u64_lo (n : Int) : 0 ≤ u64 n ∧ u64 n < 18446744073709551616 := by unfold u64; omega
theorem innerL (u : Int) (ns : List Int) (K : Int → Int → Int → List Int → Option Bool) : ∀ (n : Nat) (i k x : Int), 0 ≤ k → k ≤ i → i ≤ 8 → 0 ≤ x → x < 18446744073709551616 → (i - k).toNat < n → ref02_Put_L0_L2 n u i x k ns K = K u i (x / 256 ^ (i - k).toNat) ns
  | 0, i, k, x, _, _, _, _, _, h => by omega
  | n + 1, i, k, x, h0, h1, h2, h3, h4, h5 => by
    rw [ref02_Put_L0_L2]
    unfold ref02_Put_L0_L2.body
    by_cases h : k < i
    · have e : IntKind.wrap .u64 (Int.tdiv x 256) = x / 256 := by
        rw [Int.tdiv_eq_ediv_of_nonneg h3, wu64 (by omega) (by omega)]
      rw [cond_pos (by simpa using h), e, w64 (by omega) (by omega), innerL u ns K n i (k + 1) (x / 256) (by omega) (by omega) h2 (by omega) (by omega) (by omega)]
      congr 1
      rw [show (i - k).toNat = (i - (k + 1)).toNat + 1 by omega, Int.pow_succ, Int.mul_comm, Int.ediv_ediv_of_nonneg (by omega)]
    · rw [cond_neg (by simpa using h)]
      rw [show (i - k).toNat = 0 by omega]
      simp
theorem outerL (u : Int) (hu : 0 ≤ u ∧ u < 18446744073709551616) (K : List Int → Option Bool) : ∀ (n : Nat) (m : Nat) (acc : List Int), m ≤ 8 → acc.length ≤ 4194304 - m → m < n → ref02_Put_L0 n u ((m : Int) - 1) acc K = K (acc ++ bts u m)
  | 0, m, acc, _, _, h => by omega
  | n + 1, 0, acc, _, _, h => by
    rw [ref02_Put_L0]
    unfold ref02_Put_L0.body
    rw [cond_neg (by simp)]
    simp [bts]
  | n + 1, m + 1, acc, h1, h2, h3 => by
    rw [ref02_Put_L0]
    unfold ref02_Put_L0.body
    rw [cond_pos (decide_eq_true (by omega)), innerL u acc _ ROUNDS _ 0 u (by omega) (by omega) (by omega) hu.1 hu.2 (by unfold ROUNDS; omega)]
    rw [show ((((m + 1 : Nat) : Int) - 1) - 0).toNat = m by omega]
    have hb : 0 ≤ u / 256 ^ m := Int.ediv_nonneg hu.1 (Int.pow_nonneg (by omega))
    have e : IntKind.wrap .u8 (Int.tmod (u / 256 ^ m) 256) = (u / 256 ^ m) % 256 := by
      rw [Int.tmod_eq_emod_of_nonneg hb, w8_eq]
      omega
    rw [e, ble_t (by simp; omega), cond_t, w64 (by omega) (by omega), show ((m + 1 : Nat) : Int) - 1 - 1 = (m : Int) - 1 by omega, outerL u hu K n m _ (by omega) (by simp; omega) (by omega)]
    rw [List.append_assoc]
    first | rfl | (simp [bts])
theorem rput_ {ns : List Int} (hl : ns.length ≤ 100000) (n w : Int) (k : List Int → Option Bool) : ref02_Put ns n w k = k (if w < 1 ∨ w > 8 then ns else ns ++ bts (u64 n) w.toNat) := by
  unfold ref02_Put ref02_Put.body
  rw [ble_t (by omega), cond_t]
  by_cases h1 : w < 1
  · rw [if_pos (.inl h1), cond_neg (not_f h1)]
  · by_cases h2 : w > 8
    · rw [if_pos (.inr h2), cond_pos (not_t h1), cond_pos (decide_eq_true h2)]
    · rw [if_neg (by omega), cond_pos (not_t h1), cond_neg (decide_eq_false h2), w64 (by omega) (by omega), wu64_eq]
      have := outerL (u64 n) (u64_lo n) (fun ns29 => k ns29) ROUNDS w.toNat ns (by omega) (by omega) (by unfold ROUNDS; omega)
      rw [show ((w.toNat : Nat) : Int) - 1 = w - 1 by omega] at this
      exact this
theorem fdiv_byte (n : Int) (m : Nat) (c : Int) (hc : c = 256 ^ m) (hm : m ≤ 7) : IntKind.wrap .u8 (Int.fdiv n c) = (u64 n / 256 ^ m) % 256 := by
  subst hc
  rw [w8_eq]
  have h0 : (0 : Int) ≤ 256 ^ m := Int.pow_nonneg (by omega)
  rw [Int.fdiv_eq_ediv_of_nonneg _ h0]
  unfold u64
  rcases m with _ | _ | _ | _ | _ | _ | _ | _ | m
  all_goals first | omega | (simp only [Nat.zero_add, Nat.reduceAdd, Int.reducePow] ; omega)
theorem putCells (ns : List Int) (n w : Int) (h1 : 1 ≤ w) (h2 : w ≤ 8) : List.take (Int.toNat (8 - (8 - w))) (List.drop (Int.toNat (8 - w)) ((IntKind.wrap .u8 (Int.fdiv n 72057594037927936)) :: (IntKind.wrap .u8 (Int.fdiv n 281474976710656)) :: (IntKind.wrap .u8 (Int.fdiv n 1099511627776)) :: (IntKind.wrap .u8 (Int.fdiv n 4294967296)) :: (IntKind.wrap .u8 (Int.fdiv n 16777216)) :: (IntKind.wrap .u8 (Int.fdiv n 65536)) :: (IntKind.wrap .u8 (Int.fdiv n 256)) :: (IntKind.wrap .u8 (Int.fdiv n 1)) :: [])) = bts (u64 n) w.toNat := by
  rw [fdiv_byte n 7 72057594037927936 rfl (by omega), fdiv_byte n 6 281474976710656 rfl (by omega), fdiv_byte n 5 1099511627776 rfl (by omega), fdiv_byte n 4 4294967296 rfl (by omega), fdiv_byte n 3 16777216 rfl (by omega), fdiv_byte n 2 65536 rfl (by omega), fdiv_byte n 1 256 rfl (by omega), fdiv_byte n 0 1 rfl (by omega)]
  have : w = 1 ∨ w = 2 ∨ w = 3 ∨ w = 4 ∨ w = 5 ∨ w = 6 ∨ w = 7 ∨ w = 8 := by omega
  rcases this with rfl | rfl | rfl | rfl | rfl | rfl | rfl | rfl <;> rfl
theorem w64_cong {a b : Int} (h : a % 18446744073709551616 = b % 18446744073709551616) : IntKind.wrap .i64 a = IntKind.wrap .i64 b := by
  rw [IntKind.wrap_i64, IntKind.wrap_i64]
  omega
theorem w64_mod (a : Int) : IntKind.wrap .i64 a % 18446744073709551616 = a % 18446744073709551616 := by
  rw [IntKind.wrap_i64]
  omega
theorem ofInt_nat (a : Int) : (BitVec.ofInt 64 a).toNat = (a % 18446744073709551616).toNat := by
  rw [BitVec.toNat_ofInt]
  rfl
theorem or_byte (U b : Int) (hb : 0 ≤ b ∧ b < 256) : IntKind.wrap .i64 (((BitVec.toNat ((BitVec.ofInt 64 (IntKind.wrap .i64 (IntKind.wrap .i64 U * 256))) ||| (BitVec.ofInt 64 (IntKind.wrap .i64 b)))) : Nat) : Int) = IntKind.wrap .i64 (U * 256 + b) := by
  apply w64_cong
  rw [BitVec.toNat_or, ofInt_nat, ofInt_nat, w64_mod, w64_mod]
  have e1 : (IntKind.wrap .i64 U * 256) % 18446744073709551616 = (U % 72057594037927936) * 256 := by
    have := w64_mod U
    omega
  have e2 : b % 18446744073709551616 = b := by omega
  rw [e1, e2]
  have e3 : ((U % 72057594037927936) * 256).toNat = (U % 72057594037927936).toNat <<< 8 := by
    rw [Nat.shiftLeft_eq]
    omega
  rw [e3, ← Nat.shiftLeft_add_eq_or_of_lt (by omega : b.toNat < 2 ^ 8), Nat.shiftLeft_eq]
  omega
/-- bytes as a number -/
def val (bs : List Int) : Int := bs.foldl (fun u b => u * 256 + b) 0
theorem val_snoc (bs : List Int) (b : Int) : val (bs ++ [b]) = val bs * 256 + b := by simp [val]
def bytesOk (ns : List Int) : Prop := ∀ x ∈ ns, 0 ≤ x ∧ x < 256
theorem cut_snoc {ns : List Int} {m i : Nat} (h : m + i < ns.length) : (ns.drop m).take (i + 1) = (ns.drop m).take i ++ [ns.getD (m + i) 0] := by
  rw [List.take_add_one]
  congr 1
  rw [List.getElem?_drop, List.getElem?_eq_getElem h, List.getD_eq_getElem?_getD, List.getElem?_eq_getElem h]
  rfl
theorem getD_ok {ns : List Int} (h : bytesOk ns) {i : Nat} (hi : i < ns.length) : 0 ≤ ns.getD i 0 ∧ ns.getD i 0 < 256 := by
  rw [List.getD_eq_getElem?_getD, List.getElem?_eq_getElem hi]
  exact h _ (List.getElem_mem _)
theorem val_lt {ns : List Int} (h : bytesOk ns) : ∀ (m i : Nat), m + i ≤ ns.length → 0 ≤ val ((ns.drop m).take i) ∧ val ((ns.drop m).take i) < 256 ^ i
  | m, 0, _ => by simp [val]
  | m, i + 1, hi => by
    have := val_lt h m i (by omega)
    have hb := getD_ok h (i := m + i) (by omega)
    rw [cut_snoc (by omega), val_snoc, Int.pow_succ]
    omega
theorem numL {ns : List Int} (h : bytesOk ns) (hl : ns.length ≤ 100000) {m l : Nat} (hm : m + l ≤ ns.length) (a : Int) (b c : Bool) (k : Int → Nat → Nat → Int → Bool → Bool → List Int → Option Bool) : ∀ (n i : Nat), i ≤ l → l - i < n →
    octet_number_L0v1 n (IntKind.wrap .i64 (val ((ns.drop m).take i))) m l m l ((l : Nat) : Int) ((i : Nat) : Int) a b c ns k = k (IntKind.wrap .i64 (val ((ns.drop m).take l))) m l a b c ns
  | 0, i, _, h2 => by omega
  | n + 1, i, h1, h2 => by
    rw [octet_number_L0v1]
    unfold octet_number_L0v1.body
    by_cases hi : i < l
    · have hb := getD_ok h (i := m + i) (by omega)
      rw [cond_pos (decide_eq_true (by omega)), cond_pos (by simp; omega), Int.toNat_natCast, or_byte _ _ hb, ← val_snoc, ← cut_snoc (by omega), w64 (n := (i : Int) + 1) (by omega) (by omega), show ((i : Nat) : Int) + 1 = ((i + 1 : Nat) : Int) by omega]
      exact numL h hl hm a b c k n (i + 1) (by omega) (by omega)
    · rw [cond_neg (decide_eq_false (by omega)), show i = l by omega]
theorem take_ {ns : List Int} (hl : ns.length ≤ 100000) {a : Int} (ha : 0 ≤ a ∧ a ≤ (ns.length : Int)) (w : Int) (bad : Bool) (k1 : Int → Bool → Bool → List Int → List Int → Option Bool) (k2 : Nat → Nat → Int → Bool → Bool → List Int → Option Bool) :
    octet_Reader_take w a true bad ns k1 k2 = if bad = true ∨ w < 0 ∨ w > (ns.length : Int) - a then k1 a true true ns [] else k2 a.toNat w.toNat (a + w) true bad ns := by
  unfold octet_Reader_take octet_Reader_take.body octet_Reader_Bad octet_Reader_Bad.body octet_Reader_Left octet_Reader_Left.body octet_Reader_spoil octet_Reader_spoil.body
  dsimp only
  rw [cond_pos (by rfl)]
  cases bad with
  | true => simp
  | false =>
    rw [cond_pos (by rfl)]
    by_cases h1 : w < 0
    · rw [cond_neg (not_f h1), if_pos (.inr (.inl h1))]
    · rw [cond_pos (not_t h1), w64 (n := (ns.length : Int) - a) (by omega) (by omega)]
      by_cases h2 : w > (ns.length : Int) - a
      · rw [cond_pos (decide_eq_true h2), if_pos (.inr (.inr h2))]
      · rw [cond_neg (decide_eq_false h2), if_neg (by simp; omega), w64 (n := a + w) (by omega) (by omega), w64 (n := a + w - w) (by omega) (by omega), cond_pos (by simp; omega)]
        rw [show a + w - w = a by omega, show a + w - a = w by omega]
theorem numNil (a : Int) (b c : Bool) (ns : List Int) (k : Int → Int → Bool → Bool → List Int → List Int → Option Bool) : octet_number_L0 ROUNDS 0 (([] : List Int).length : Int) 0 a b c ns [] k = k 0 a b c ns [] := by
  have e : octet_number_L0 ROUNDS = octet_number_L0 (1180591620717411303423 + 1) := rfl
  rw [e, octet_number_L0]
  simp [octet_number_L0.body]
theorem number_ {ns : List Int} (h : bytesOk ns) (hl : ns.length ≤ 100000) {a : Int} (ha : 0 ≤ a ∧ a ≤ (ns.length : Int)) (w : Int) (bad : Bool) (k1 : Int → Int → Bool → Bool → List Int → List Int → Option Bool) (k2 : Int → Nat → Nat → Int → Bool → Bool → List Int → Option Bool) :
    octet_number w a true bad ns k1 k2 = if bad = true ∨ w < 1 ∨ w > 8 ∨ w > (ns.length : Int) - a then k1 0 a true true ns [] else k2 (IntKind.wrap .i64 (val ((ns.drop a.toNat).take w.toNat))) a.toNat w.toNat (a + w) true bad ns := by
  unfold octet_number octet_number.body
  by_cases h1 : w < 1
  · rw [cond_neg (not_f h1), take_ hl ha, if_pos (by omega), if_pos (by omega), numNil]
  · rw [cond_pos (not_t h1)]
    by_cases h2 : w > 8
    · rw [cond_pos (decide_eq_true h2), take_ hl ha, if_pos (by omega), if_pos (by omega), numNil]
    · rw [cond_neg (decide_eq_false h2), take_ hl ha]
      by_cases h3 : bad = true ∨ w < 0 ∨ w > (ns.length : Int) - a
      · rw [if_pos h3, if_pos (by rcases h3 with h | h | h; exact .inl h; omega; exact .inr (.inr (.inr h))), numNil]
      · have h3' : ¬ (bad = true) := fun e => h3 (.inl e)
        rw [if_neg h3, if_neg (by rintro (h | h | h | h); exact h3' h; omega; omega; exact h3 (.inr (.inr h)))]
        have := numL h hl (m := a.toNat) (l := w.toNat) (by omega) (a + w) true bad (fun n168 m169 m170 n171 b172 b173 ns174 => k2 n168 m169 m170 n171 b172 b173 ns174) ROUNDS 0 (by omega) (by unfold ROUNDS; omega)
        rw [List.take_zero] at this
        exact this
theorem val_from : ∀ (bs : List Int) (u : Int), bs.foldl (fun u b => u * 256 + b) u = u * 256 ^ bs.length + val bs
  | [], u => by simp [val]
  | b :: r, u => by
    have e : val (b :: r) = b * 256 ^ r.length + val r := by
      show (b :: r).foldl (fun u b => u * 256 + b) 0 = _
      rw [List.foldl_cons, val_from r]
      simp
    rw [List.foldl_cons, val_from r, e, List.length_cons, Int.pow_succ, Int.add_mul, Int.mul_assoc, Int.mul_comm 256]
    omega
theorem val_first {ns : List Int} {m l : Nat} (h : m + (l + 1) ≤ ns.length) : val ((ns.drop m).take (l + 1)) = ns.getD m 0 * 256 ^ l + val ((ns.drop (m + 1)).take l) := by
  have hm : m < ns.length := by omega
  rw [List.drop_eq_getElem_cons hm, List.take_succ_cons, val, List.foldl_cons, val_from, List.length_take, List.length_drop, Nat.min_eq_left (by omega), List.getD_eq_getElem?_getD, List.getElem?_eq_getElem hm]
  simp
theorem pow8 : ∀ i : Nat, i ≤ 8 → (256 : Int) ^ i ≤ 18446744073709551616 := by
  intro i hi
  rcases i with _ | _ | _ | _ | _ | _ | _ | _ | _ | i
  all_goals first | omega | decide
abbrev Rd := List Int × Int × Bool × Unit
theorem rnumL {ns : List Int} (h : bytesOk ns) (hl : ns.length ≤ 100000) {a : Int} {w : Int} (ha : 0 ≤ a) (hw : w ≤ 8) (hm : a + w ≤ (ns.length : Int)) (s : Bool) (bad : Bool) (x : Int) (y : Bool) (k : Int → Bool → Int → Rd → Int → Bool → Option Bool) : ∀ (n i : Nat), (i : Int) ≤ w → (w - i).toNat < n →
    ref02_Num_L0 n w s (val ((ns.drop a.toNat).take i)) (i : Int) (ns, (a, (bad, ()))) x y k = k w s (val ((ns.drop a.toNat).take w.toNat)) (ns, (a, (bad, ()))) x y
  | 0, i, _, h2 => by omega
  | n + 1, i, h1, h2 => by
    rw [ref02_Num_L0]
    unfold ref02_Num_L0.body
    by_cases hi : (i : Int) < w
    · have hb := getD_ok h (i := a.toNat + i) (by omega)
      have hv := val_lt h a.toNat i (by omega)
      have hv2 := val_lt h a.toNat (i + 1) (by omega)
      have hp := pow8 (i + 1) (by omega)
      have e : (IntKind.wrap .i64 (a + (i : Int))) = a + (i : Int) := w64 (by omega) (by omega)
      have e2 : (a + (i : Int)).toNat = a.toNat + i := by omega
      rw [cut_snoc (by omega), val_snoc] at hv2
      dsimp only
      rw [cond_pos (decide_eq_true hi), e, e2, cond_pos (by simp; omega), wu64 (n := val ((ns.drop a.toNat).take i) * 256) (by omega) (by omega), wu64 (n := ns.getD (a.toNat + i) 0) (by omega) (by omega), wu64 (by omega) (by omega), ← val_snoc, ← cut_snoc (by omega), w64 (n := (i : Int) + 1) (by omega) (by omega), show ((i : Nat) : Int) + 1 = ((i + 1 : Nat) : Int) by omega]
      exact rnumL h hl ha hw hm s bad x y k n (i + 1) (by omega) (by omega)
    · rw [cond_neg (decide_eq_false hi), show w.toNat = i by omega]
theorem rtopL {w u : Int} (hw : w ≤ 7) (t : Rd) (x : Int) (y : Bool) (k : Int → Int → Int → Rd → Int → Bool → Option Bool) : ∀ (n i : Nat), (i : Int) ≤ w → (w - i).toNat < n → ref02_Num_L2 n w u (256 ^ i) (i : Int) t x y k = k w u (256 ^ w.toNat) t x y
  | 0, i, _, h2 => by omega
  | n + 1, i, h1, h2 => by
    rw [ref02_Num_L2]
    unfold ref02_Num_L2.body
    by_cases hi : (i : Int) < w
    · have hp : (256 : Int) ^ (i + 1) ≤ 72057594037927936 := by
        have : i ≤ 6 := by omega
        rcases i with _ | _ | _ | _ | _ | _ | _ | i
        all_goals first | omega | decide
      have hp0 : (0 : Int) ≤ 256 ^ (i + 1) := Int.pow_nonneg (by omega)
      rw [cond_pos (decide_eq_true hi), ← Int.pow_succ, wu64 hp0 (by omega), w64 (n := (i : Int) + 1) (by omega) (by omega), show ((i : Nat) : Int) + 1 = ((i + 1 : Nat) : Int) by omega]
      exact rtopL hw t x y k n (i + 1) (by omega) (by omega)
    · rw [cond_neg (decide_eq_false hi), show w.toNat = i by omega]
def sgn (ns : List Int) (a w : Int) : Int := if w < 8 ∧ 128 ≤ ns.getD a.toNat 0 then val ((ns.drop a.toNat).take w.toNat) - 256 ^ w.toNat else IntKind.wrap .i64 (val ((ns.drop a.toNat).take w.toNat))
theorem rnum_ {ns : List Int} (h : bytesOk ns) (hl : ns.length ≤ 100000) {a : Int} (ha : 0 ≤ a ∧ a ≤ (ns.length : Int)) (w : Int) (s bad : Bool) (k : Rd → Int → Option Bool) :
    ref02_Num (ns, (a, (bad, ()))) w s k = if bad = true ∨ w < 1 ∨ w > 8 ∨ w > (ns.length : Int) - a then k (ns, (a, (true, ()))) 0 else k (ns, (a + w, (bad, ()))) (if s = true then sgn ns a w else IntKind.wrap .i64 (val ((ns.drop a.toNat).take w.toNat))) := by
  unfold ref02_Num ref02_Num.body
  dsimp only
  cases bad with
  | true => simp
  | false =>
    rw [cond_pos (by rfl)]
    by_cases h1 : w < 1
    · rw [cond_neg (not_f h1), if_pos (.inr (.inl h1))]
    · rw [cond_pos (not_t h1)]
      by_cases h2 : w > 8
      · rw [cond_neg (not_f h2), if_pos (.inr (.inr (.inl h2)))]
      · rw [cond_pos (not_t h2), w64 (n := (ns.length : Int) - a) (by omega) (by omega)]
        by_cases h3 : w > (ns.length : Int) - a
        · rw [cond_pos (decide_eq_true h3), if_pos (.inr (.inr (.inr h3)))]
        · rw [cond_neg (decide_eq_false h3), if_neg (by simp; omega)]
          have hL := fun k => rnumL h hl (a := a) (w := w) ha.1 (by omega) (by omega) s false 0 false k ROUNDS 0 (by omega) (by unfold ROUNDS; omega)
          rw [List.take_zero] at hL
          have hL' := fun k => hL k
          refine (hL' _).trans ?_
          dsimp only
          rw [w64 (n := a + w) (by omega) (by omega)]
          cases s with
          | false => rfl
          | true =>
            rw [cond_pos rfl, if_pos rfl]
            unfold sgn
            by_cases h4 : w < 8
            · rw [cond_pos (decide_eq_true h4), cond_pos (by simp; omega)]
              by_cases h5 : 128 ≤ ns.getD a.toNat 0
              · rw [cond_pos (decide_eq_true h5), if_pos ⟨h4, h5⟩]
                have hv := val_lt h a.toNat w.toNat (by omega)
                have hp : (256 : Int) ^ w.toNat ≤ 72057594037927936 := by
                  have : w.toNat ≤ 7 := by omega
                  generalize w.toNat = j at this
                  rcases j with _ | _ | _ | _ | _ | _ | _ | _ | j
                  all_goals first | omega | decide
                have hT := rtopL (w := w) (u := val ((ns.drop a.toNat).take w.toNat)) (by omega) (ns, (a, (false, ()))) 0 false (fun n324 n325 n326 t327 n328 b329 => k (t327.1, (IntKind.wrap .i64 (t327.2.1 + n324), (t327.2.2.1, ()))) (IntKind.wrap .i64 (IntKind.wrap .u64 (n325 - n326)))) ROUNDS 0 (by omega) (by unfold ROUNDS; omega)
                refine hT.trans ?_
                dsimp only
                rw [w64 (n := a + w) (by omega) (by omega), wu64_eq]
                unfold u64
                congr 1
                rw [IntKind.wrap_i64]
                omega
              · rw [cond_neg (decide_eq_false h5), if_neg (fun h => h5 h.2)]
            · rw [cond_neg (decide_eq_false h4), if_neg (fun h => h4 h.1)]
theorem shl_ (V b0 R : Int) : ∀ w : Nat, 1 ≤ w → w ≤ 8 → V = b0 * 256 ^ (w - 1) + R → 0 ≤ R → R < 256 ^ (w - 1) → 0 ≤ b0 → b0 < 256 →
    Int.fdiv (IntKind.wrap .i64 (IntKind.wrap .i64 V * 2 ^ (8 * (8 - w)))) (2 ^ (8 * (8 - w))) = if w < 8 ∧ 128 ≤ b0 then V - 256 ^ w else IntKind.wrap .i64 V := by
  intro w h1 h2 hV hR0 hR1 hb0 hb1
  rw [Int.fdiv_eq_ediv_of_nonneg _ (Int.pow_nonneg (by omega)), IntKind.wrap_i64, IntKind.wrap_i64]
  rcases w with _ | _ | _ | _ | _ | _ | _ | _ | _ | w
  · omega
  all_goals first | omega | skip
  all_goals
    simp only [Nat.reduceAdd, Nat.reduceSub, Nat.reduceMul, Int.reducePow, Nat.zero_add, Int.pow_zero, Int.mul_one] at *
    split <;> omega
theorem num_ {ns : List Int} (h : bytesOk ns) (hl : ns.length ≤ 100000) {a : Int} (ha : 0 ≤ a ∧ a ≤ (ns.length : Int)) (w : Int) (bad : Bool) (k : Int → Int → Bool → Bool → List Int → Option Bool) :
    octet_Reader_Num w a true bad ns k = if bad = true ∨ w < 1 ∨ w > 8 ∨ w > (ns.length : Int) - a then k 0 a true true ns else k (IntKind.wrap .i64 (val ((ns.drop a.toNat).take w.toNat))) (a + w) true bad ns := by
  unfold octet_Reader_Num octet_Reader_Num.body
  rw [number_ h hl ha]
theorem signed_ {ns : List Int} (h : bytesOk ns) (hl : ns.length ≤ 100000) {a : Int} (ha : 0 ≤ a ∧ a ≤ (ns.length : Int)) (w : Int) (bad : Bool) (k : Int → Int → Bool → Bool → List Int → Option Bool) :
    octet_Reader_Signed w a true bad ns k = if bad = true ∨ w < 1 ∨ w > 8 ∨ w > (ns.length : Int) - a then k 0 a true true ns else k (sgn ns a w) (a + w) true bad ns := by
  unfold octet_Reader_Signed octet_Reader_Signed.body
  rw [number_ h hl ha]
  by_cases hf : bad = true ∨ w < 1 ∨ w > 8 ∨ w > (ns.length : Int) - a
  · rw [if_pos hf, if_pos hf, cond_pos (by rfl)]
  · rw [if_neg hf, if_neg hf]
    have h1 : 1 ≤ w ∧ w ≤ 8 ∧ w ≤ (ns.length : Int) - a := by
      refine ⟨?_, ?_, ?_⟩
      · exact Int.not_lt.1 fun g => hf (.inr (.inl g))
      · exact Int.not_lt.1 fun g => hf (.inr (.inr (.inl g)))
      · exact Int.not_lt.1 fun g => hf (.inr (.inr (.inr g)))
    have hw : ((w.toNat : Nat) : Int) = w := by omega
    rw [hw, w64 (n := 8 - w) (by omega) (by omega), wu64 (n := 8 - w) (by omega) (by omega), wu64 (n := 8 * (8 - w)) (by omega) (by omega), cond_neg (by simp; omega), cond_pos (by simp; omega), cond_pos (by simp; omega)]
    congr 1
    have hs : min (8 * (8 - w)).toNat 64 = 8 * (8 - w.toNat) := by omega
    have hlen : a.toNat + w.toNat ≤ ns.length := by omega
    obtain ⟨j, hj⟩ : ∃ j, w.toNat = j + 1 := ⟨w.toNat - 1, by omega⟩
    have hv := val_first (ns := ns) (m := a.toNat) (l := j) (by omega)
    have hr := val_lt h (a.toNat + 1) j (by omega)
    have hb := getD_ok h (i := a.toNat) (by omega)
    have := shl_ (val ((ns.drop a.toNat).take (j + 1))) (ns.getD a.toNat 0) (val ((ns.drop (a.toNat + 1)).take j)) (j + 1) (by omega) (by omega) (by simpa using hv) hr.1 (by simpa using hr.2) hb.1 hb.2
    rw [hs, hj, this]
    unfold sgn
    rw [hj]
    by_cases h4 : w < 8
    · have : j + 1 < 8 := by omega
      simp [h4, this]
    · have : ¬ j + 1 < 8 := by omega
      simp [h4, this]
theorem val_one {ns : List Int} {m : Nat} (hm : m < ns.length) : val ((ns.drop m).take 1) = ns.getD m 0 := by
  have := val_first (ns := ns) (m := m) (l := 0) (by omega)
  simpa [val] using this
theorem text_ {ns : List Int} (h : bytesOk ns) (hl : ns.length ≤ 100000) {a : Int} (ha : 0 ≤ a ∧ a ≤ (ns.length : Int)) (most : Int) (bad : Bool) (k : ByteArray → Int → Bool → Bool → List Int → Option Bool) :
    octet_Reader_Text most a true bad ns k = if bad = true ∨ a = (ns.length : Int) ∨ ns.getD a.toNat 0 > most ∨ ns.getD a.toNat 0 ≥ (ns.length : Int) - a then k ⟨#[]⟩ a true true ns else k (strOf ((ns.drop (a.toNat + 1)).take (ns.getD a.toNat 0).toNat)) (a + 1 + ns.getD a.toNat 0) true bad ns := by
  unfold octet_Reader_Text octet_Reader_Text.body
  unfold octet_Reader_Bad octet_Reader_Bad.body octet_Reader_Left octet_Reader_Left.body octet_Reader_spoil octet_Reader_spoil.body
  dsimp only
  rw [cond_pos (by rfl)]
  cases bad with
  | true => simp
  | false =>
    rw [cond_pos (by rfl), w64 (n := (ns.length : Int) - a) (by omega) (by omega)]
    by_cases h0 : a = (ns.length : Int)
    · rw [cond_pos (by simp; omega), if_pos (.inr (.inl h0))]
    · have hb := getD_ok h (i := a.toNat) (by omega)
      rw [cond_neg (by simp; omega), cond_pos (by simp; omega), w64 (n := ns.getD a.toNat 0) (by omega) (by omega)]
      by_cases h1 : ns.getD a.toNat 0 > most
      · rw [cond_neg (not_f h1), if_pos (.inr (.inr (.inl h1)))]
      · rw [cond_pos (not_t h1)]
        by_cases h2 : ns.getD a.toNat 0 ≥ (ns.length : Int) - a
        · rw [cond_pos (decide_eq_true h2), if_pos (.inr (.inr (.inr h2)))]
        · rw [cond_neg (decide_eq_false h2), if_neg (by rintro (g | g | g | g); cases g; exact h0 g; exact h1 g; exact h2 g), w64 (n := 1 + ns.getD a.toNat 0) (by omega) (by omega), take_ hl ha, if_neg (by rintro (g | g | g); cases g; omega; omega)]
          rw [cond_pos (by simp only [Bool.true_and, Bool.and_true, Bool.and_eq_true, decide_eq_true_eq]; omega)]
          rw [show (1 + ns.getD a.toNat 0).toNat - 1 = (ns.getD a.toNat 0).toNat by omega, show a + (1 + ns.getD a.toNat 0) = a + 1 + ns.getD a.toNat 0 by omega]
theorem rnext_ {ns : List Int} (h : bytesOk ns) (hl : ns.length ≤ 100000) {a : Int} (ha : 0 ≤ a ∧ a ≤ (ns.length : Int)) (most : Int) (bad : Bool) (k : Rd → ByteArray → Option Bool) :
    ref02_Next (ns, (a, (bad, ()))) most k = if bad = true ∨ a = (ns.length : Int) ∨ ns.getD a.toNat 0 > most ∨ ns.getD a.toNat 0 ≥ (ns.length : Int) - a then k (ns, (a, (true, ()))) ⟨#[]⟩ else k (ns, (a + 1 + ns.getD a.toNat 0, (bad, ()))) (strOf ((ns.drop (a.toNat + 1)).take (ns.getD a.toNat 0).toNat)) := by
  unfold ref02_Next ref02_Next.body
  rw [rnum_ h hl ha]
  cases bad with
  | true => simp
  | false =>
    by_cases h0 : a = (ns.length : Int)
    · rw [if_pos (by omega), if_pos (.inr (.inl h0))]
      simp
    · have hb := getD_ok h (i := a.toNat) (by omega)
      rw [if_neg (by rintro (g | g | g | g); cases g; omega; omega; omega), if_neg (by simp)]
      rw [show (1 : Int).toNat = 1 from rfl, val_one (by omega), w64 (n := ns.getD a.toNat 0) (by omega) (by omega)]
      dsimp only
      rw [cond_pos (by rfl)]
      by_cases h1 : ns.getD a.toNat 0 > most
      · rw [cond_neg (not_f h1), if_pos (.inr (.inr (.inl h1)))]
      · rw [cond_pos (not_t h1), w64 (n := (ns.length : Int) - (a + 1)) (by omega) (by omega)]
        by_cases h2 : ns.getD a.toNat 0 ≥ (ns.length : Int) - a
        · rw [cond_pos (decide_eq_true (by omega)), if_pos (.inr (.inr (.inr h2)))]
        · rw [cond_neg (decide_eq_false (by omega)), if_neg (by rintro (g | g | g | g); cases g; exact h0 g; exact h1 g; exact h2 g), w64 (n := a + 1 + ns.getD a.toNat 0) (by omega) (by omega), cond_pos (by simp only [Bool.true_and, Bool.and_true, Bool.and_eq_true, decide_eq_true_eq]; omega)]
          rw [show (a + 1).toNat = a.toNat + 1 by omega, show a + 1 + ns.getD a.toNat 0 - (a + 1) = ns.getD a.toNat 0 by omega]
theorem bytesI_len (s : ByteArray) : (bytesI s).length = s.size := by
  unfold bytesI
  rw [List.length_map]
  rfl
theorem strOf_bytesI (s : ByteArray) : strOf (bytesI s) = s := by
  unfold strOf bytesI
  rw [List.map_map]
  have : ((fun n => UInt8.ofNat (Int.toNat n)) ∘ fun b : UInt8 => (b.toNat : Int)) = id := by
    funext b
    simp
  rw [this, List.map_id]
theorem putv1_ (n w : Int) (k : List Int → Option Bool) : octet_Putv1 n w k = k (if w < 1 ∨ w > 8 then [] else bts (u64 n) w.toNat) := by
  unfold octet_Putv1 octet_Putv1.body
  by_cases h1 : w < 1
  · rw [if_pos (.inl h1), cond_neg (not_f h1)]
  · by_cases h2 : w > 8
    · rw [if_pos (.inr h2), cond_pos (not_t h1), cond_pos (decide_eq_true h2)]
    · rw [if_neg (by omega), cond_pos (not_t h1), cond_neg (decide_eq_false h2), w64 (n := 8 - w) (by omega) (by omega), cond_pos (by simp; omega), putCells [] n w (by omega) (by omega), ble_t (by rw [bts_len]; omega), cond_t]
      rfl
theorem putv2_ {ns : List Int} (hl : ns.length ≤ 100000) (n w : Int) (k : List Int → Option Bool) : octet_Putv2 ns n w k = k (if w < 1 ∨ w > 8 then ns else ns ++ bts (u64 n) w.toNat) := by
  unfold octet_Putv2 octet_Putv2.body
  rw [ble_t (by omega), cond_t]
  by_cases h1 : w < 1
  · rw [if_pos (.inl h1), cond_neg (not_f h1)]; rfl
  · by_cases h2 : w > 8
    · rw [if_pos (.inr h2), cond_pos (not_t h1), cond_pos (decide_eq_true h2)]; rfl
    · rw [if_neg (by omega), cond_pos (not_t h1), cond_neg (decide_eq_false h2), w64 (n := 8 - w) (by omega) (by omega), cond_pos (by simp; omega), putCells ns n w (by omega) (by omega), ble_t (by rw [bts_len]; simp; omega), cond_t]
      rfl
theorem bts_one (u : Int) : bts u 1 = [u % 256] := by simp [bts]
theorem textv1_ {ns : List Int} (hl : ns.length ≤ 1000) (s : ByteArray) (hs : s.size ≤ 255) (k : List Int → Option Bool) : octet_Textv1 ns s k = k (ns ++ [(s.size : Int)] ++ bytesI s) := by
  unfold octet_Textv1 octet_Textv1.body
  have hb := bytesI_len s
  have e : u64 (s.size : Int) % 256 = (s.size : Int) := by unfold u64; omega
  have e1 : s.extract 0 s.size = s := ByteArray.extract_zero_size
  rw [if_neg (by omega), putv2_ (by omega), if_neg (by omega), cond_pos (by simp)]
  rw [Int.toNat_natCast, e1, show (1 : Int).toNat = 1 from rfl, bts_one, e, ble_t (by simp only [List.length_append, List.length_singleton]; omega), cond_t]
theorem bts_bytes (u : Int) : ∀ m, ∀ x ∈ bts u m, 0 ≤ x ∧ x < 256
  | 0, x, h => by cases h
  | m + 1, x, h => by
    rcases List.mem_cons.1 h with h | h
    · subst h; omega
    · exact bts_bytes u m x h
theorem val_bts (u : Int) (hu : 0 ≤ u) : ∀ m, val (bts u m) = u % 256 ^ m
  | 0 => by simp [val, bts, Int.emod_one]
  | m + 1 => by
    have h1 := val_from (bts u m) ((u / 256 ^ m) % 256)
    have : val (bts u (m + 1)) = (u / 256 ^ m) % 256 * 256 ^ m + val (bts u m) := by
      show ((u / 256 ^ m) % 256 :: bts u m).foldl (fun u b => u * 256 + b) 0 = _
      rw [List.foldl_cons, Int.zero_mul, Int.zero_add, h1, bts_len]
    rw [this, val_bts u hu m]
    have e : u % 256 ^ (m + 1) = u % (256 ^ m * 256) := by rw [Int.pow_succ]
    have p : (0 : Int) < 256 ^ m := Int.pow_pos (by omega)
    rw [e]
    obtain ⟨v, rfl⟩ := Int.eq_ofNat_of_zero_le hu
    have h := congrArg (fun x : Nat => (x : Int)) (Nat.mod_mul (x := v) (a := 256 ^ m) (b := 256))
    simp only [Int.natCast_add, Int.natCast_mul, Int.natCast_emod, Int.natCast_ediv, Int.natCast_pow] at h
    have h2 : ((256 : Nat) : Int) = 256 := rfl
    rw [h2] at h
    rw [h, Int.mul_comm, Int.add_comm]
theorem bts_get0 (u : Int) (m : Nat) : (bts u (m + 1)).getD 0 0 = (u / 256 ^ m) % 256 := rfl
theorem back (n : Int) : ∀ w : Nat, 1 ≤ w → w ≤ 8 → ∀ x c : Int, c = 2 ^ (8 * (8 - w)) → x = Int.fdiv (IntKind.wrap .i64 (n * c)) c → Int.fdiv (IntKind.wrap .i64 (IntKind.wrap .i64 (u64 x % 256 ^ w) * c)) c = x := by
  intro w h1 h2 x c hc hx
  have hc0 : 0 ≤ c := by rw [hc]; exact Int.pow_nonneg (by omega)
  rw [Int.fdiv_eq_ediv_of_nonneg _ hc0] at hx ⊢
  unfold u64
  rw [IntKind.wrap_i64, IntKind.wrap_i64]
  rw [IntKind.wrap_i64] at hx
  rcases w with _ | _ | _ | _ | _ | _ | _ | _ | _ | w
  · omega
  all_goals first | omega | skip
  all_goals
    simp only [Nat.reduceAdd, Nat.reduceSub, Nat.reduceMul, Int.reducePow, Nat.zero_add, Int.pow_zero, Int.mul_one] at *
    subst hc
    omega
theorem holds (n w : Int) (s : ByteArray) (ms : List Int) (h0 : okD (.int .i64) n) (h1 : okD (.int .i64) w) (h2 : okD .str s) (h3 : okD (.sl 5 (.int .u8)) ms) : law02_OctetBack n w s ms (fun y => some y) = some true := by
  have hb : bytesOk ms := fun x hx => by
    have := okD_int.1 ((okD_sl.1 h3).2 x hx)
    simp [Lit.wf, IntKind.min, IntKind.max, IntKind.bits, IntKind.signed, i_] at this
    omega
  unfold law02_OctetBack law02_OctetBack.body law02_known
  by_cases c1 : w < 1
  · rw [cond_neg (not_f c1)]
  · rw [cond_pos (not_t c1)]
    by_cases c2 : w > 8
    · rw [cond_neg (not_f c2)]
    · rw [cond_pos (not_t c2)]
      by_cases c3 : (s.size : Int) > 255
      · rw [cond_neg (not_f c3)]
      · rw [cond_pos (not_t c3)]
        by_cases c4 : (ms.length : Int) > 100
        · rw [cond_pos (decide_eq_true c4)]
        · rw [cond_neg (decide_eq_false c4), w64 (n := 8 * w) (by omega) (by omega), w64 (n := 64 - 8 * w) (by omega) (by omega), cond_pos (decide_eq_true (by omega)), cond_pos (decide_eq_true (by omega))]
          have es : min (64 - 8 * w).toNat 64 = 8 * (8 - w.toNat) := by omega
          rw [es]
          generalize hx : Int.fdiv (IntKind.wrap .i64 (n * 2 ^ (8 * (8 - w.toNat)))) (2 ^ (8 * (8 - w.toNat))) = x
          have hbk := back n w.toNat (by omega) (by omega) x _ rfl hx.symm
          rw [putv1_, if_neg (by omega)]
          have hs8 := bytesI_len s
          have hl1 := bts_len (u64 x) w.toNat
          rw [textv1_ (by omega) s (by omega), ble_t (by simp only [List.length_append, List.length_singleton]; omega), cond_t]
          generalize hN : bts (u64 x) w.toNat ++ [(s.size : Int)] ++ bytesI s ++ ms = N
          have hNl : N.length = w.toNat + 1 + s.size + ms.length := by
            rw [← hN]
            simp only [List.length_append, List.length_singleton]
            omega
          have hNb : bytesOk N := by
            intro y hy
            rw [← hN] at hy
            simp only [List.mem_append, List.mem_singleton] at hy
            rcases hy with ((hy | hy) | hy) | hy
            · exact bts_bytes _ _ _ hy
            · omega
            · unfold bytesI at hy
              obtain ⟨z, _, rfl⟩ := List.mem_map.1 hy
              have := z.toNat_lt
              omega
            · exact hb y hy
          unfold octet_New octet_New.body
          rw [ble_t (by omega), cond_t, List.nil_append]
          dsimp only
          rw [signed_ hNb (by omega) ⟨by omega, by omega⟩, if_neg (by rintro (g | g | g | g); cases g; omega; omega; omega)]
          have hN0 : N = bts (u64 x) w.toNat ++ ([(s.size : Int)] ++ bytesI s ++ ms) := by rw [← hN]; simp only [List.append_assoc]
          have htk : (N.drop (0 : Int).toNat).take w.toNat = bts (u64 x) w.toNat := by
            rw [show (0 : Int).toNat = 0 from rfl, List.drop_zero, hN0, List.take_append_of_le_length (by omega), List.take_of_length_le (by omega)]
          have hval := val_bts (u64 x) (u64_lo x).1 w.toNat
          have hsgn : sgn N 0 w = x := by
            rw [← hbk]
            obtain ⟨j, hj⟩ : ∃ j, w.toNat = j + 1 := ⟨w.toNat - 1, by omega⟩
            have hv := val_first (ns := N) (m := 0) (l := j) (by omega)
            have hr := val_lt hNb 1 j (by omega)
            have hb0 := getD_ok hNb (i := 0) (by omega)
            rw [show (0 : Int).toNat = 0 from rfl, hj] at htk
            have := shl_ (val ((N.drop 0).take (j + 1))) (N.getD 0 0) (val ((N.drop 1).take j)) (j + 1) (by omega) (by omega) (by simpa using hv) hr.1 (by simpa using hr.2) hb0.1 hb0.2
            rw [hj] at hval ⊢
            rw [htk, hval] at this
            rw [this]
            unfold sgn
            rw [show (0 : Int).toNat = 0 from rfl, hj, htk, hval]
            by_cases h4 : w < 8
            · have : j + 1 < 8 := by omega
              simp [h4, this]
            · have : ¬ j + 1 < 8 := by omega
              simp [h4, this]
          rw [hsgn, cond_pos (by simp), Int.zero_add]
          have hg : N.getD w.toNat 0 = (s.size : Int) := by
            rw [hN0, List.getD_eq_getElem?_getD, List.getElem?_append_right (by omega), hl1, Nat.sub_self]
            rfl
          rw [text_ hNb (by omega) ⟨by omega, by omega⟩, hg, if_neg (by rintro (g | g | g | g); cases g; omega; omega; omega)]
          have hd : (N.drop (w.toNat + 1)).take (s.size : Int).toNat = bytesI s := by
            have : N = (bts (u64 x) w.toNat ++ [(s.size : Int)]) ++ (bytesI s ++ ms) := by rw [← hN]; simp only [List.append_assoc]
            rw [this, List.drop_append_of_le_length (by simp only [List.length_append, List.length_singleton]; omega), List.drop_of_length_le (by simp only [List.length_append, List.length_singleton]; omega), List.nil_append, Int.toNat_natCast, List.take_append_of_le_length (by omega), List.take_of_length_le (by omega)]
          rw [hd, strOf_bytesI, cond_pos (by simp)]
          unfold octet_Reader_Left octet_Reader_Left.body octet_Reader_Bad octet_Reader_Bad.body
          dsimp only
          rw [w64 (n := (N.length : Int) - (w + 1 + (s.size : Int))) (by omega) (by omega), cond_pos (by simp; omega), cond_pos (by rfl), cond_pos (by rfl)]

end Go.Proofs.Ytpmgmpaodjcfjaa.octetBack
