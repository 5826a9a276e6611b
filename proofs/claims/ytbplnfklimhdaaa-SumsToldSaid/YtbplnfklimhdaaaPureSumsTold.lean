/- What the plain functions answer: the law, without program or memory. -/
import Derived.Test.YtbplnfklimhdaaaMG
import Derived.IntWalk
import Derived.Laws.Strings
namespace Go.Proofs.Ytbplnfklimhdaaa.sumsTold
open Go.AX Go.Proofs.Ytbplnfklimhdaaa.g
set_option linter.unusedVariables false
set_option linter.unusedSimpArgs false
theorem cond_ite (b : Bool) (x y : Option Bool) : cond_ b x y = if b = true then x else y := by cases b <;> rfl
@[simp] theorem cond_t (x y : Option Bool) : cond_ true x y = x := (cond_ite true x y).trans (if_pos rfl)
@[simp] theorem cond_f (x y : Option Bool) : cond_ false x y = y := (cond_ite false x y).trans (if_neg (by decide))
theorem cond_pos {b : Bool} {x y : Option Bool} (h : b = true) : cond_ b x y = x := by rw [h]; rfl
theorem cond_neg {b : Bool} {x y : Option Bool} (h : b = false) : cond_ b x y = y := by rw [h]; rfl
@[simp] theorem meet_self (x : Option Bool) : meet x x = x := by
  cases x with
  | none => rfl
  | some a => simp [meet]
theorem w64 {n : Int} (h1 : -9223372036854775808 ≤ n) (h2 : n ≤ 9223372036854775807) : IntKind.wrap .i64 n = n := IntWalk.i64_in n ⟨h1, h2⟩
theorem w8 {n : Int} (h1 : 0 ≤ n) (h2 : n ≤ 255) : IntKind.wrap .u8 n = n := IntWalk.u8_in n ⟨h1, h2⟩
theorem wu64 {n : Int} (h1 : 0 ≤ n) (h2 : n ≤ 18446744073709551615) : IntKind.wrap .u64 n = n := IntWalk.u64_in n ⟨h1, h2⟩
theorem ble_t {a b : Nat} (h : a ≤ b) : Nat.ble a b = true := by rw [Nat.ble_eq]; exact h
theorem ok64 {n : Int} (h : okD (.int .i64) n) : -9223372036854775808 ≤ n ∧ n ≤ 9223372036854775807 := by
  have := okD_int.1 h
  simpa [Lit.wf, IntKind.min, IntKind.max, IntKind.bits, IntKind.signed, i_] using this
theorem not_t {p : Prop} [Decidable p] (h : ¬p) : (!decide p) = true := by simp [h]
theorem not_f {p : Prop} [Decidable p] (h : p) : (!decide p) = false := by simp [h]
theorem cond_congr {b c : Bool} (h : b = c) (x y : Option Bool) : cond_ b x y = cond_ c x y := by rw [h]
attribute [local congr] cond_congr
theorem dt {p : Prop} [Decidable p] (h : p) : decide p = true := decide_eq_true h
theorem df {p : Prop} [Decidable p] (h : ¬p) : decide p = false := decide_eq_false h
theorem ieqt {a b : Int} (h : a = b) : (a == b) = true := by simp [h]
theorem ieqf {a b : Int} (h : a ≠ b) : (a == b) = false := by simp [h]
theorem inet {a b : Int} (h : a ≠ b) : (a != b) = true := by simp [h]
theorem inef {a b : Int} (h : a = b) : (a != b) = false := by simp [h]
theorem ble_f {a b : Nat} (h : b < a) : Nat.ble a b = false := by
  cases hb : Nat.ble a b with
  | false => rfl
  | true => rw [Nat.ble_eq] at hb; omega
theorem rounds_ : ∃ R, ROUNDS = R ∧ 1000000000 ≤ R := ⟨ROUNDS, rfl, by unfold ROUNDS; omega⟩
def u64 (n : Int) : Int := n % 18446744073709551616
theorem wu64_eq (n : Int) : IntKind.wrap .u64 n = u64 n := by
  simp [IntKind.wrap, IntKind.bits, IntKind.signed, u64]
/-- the last bytes of a number -/
def bts (u : Int) : Nat → List Int
  | 0 => []
  | m + 1 => (u / 256 ^ m) % 256 :: bts u m
theorem bts_len (u : Int) : ∀ m, (bts u m).length = m
  | 0 => rfl
  | m + 1 => by simp [bts, bts_len u m]
theorem w8_eq (n : Int) : IntKind.wrap .u8 n = n % 256 := by
  simp [IntKind.wrap, IntKind.bits, IntKind.signed]
theorem u64_lo (n : Int) : 0 ≤ u64 n ∧ u64 n < 18446744073709551616 := by unfold u64; omega
theorem innerL (u : Int) (ns : List Int) (K : Int → Int → Int → List Int → Option Bool) : ∀ (n : Nat) (i k x : Int), 0 ≤ k → k ≤ i → i ≤ 8 → 0 ≤ x → x < 18446744073709551616 → (i - k).toNat < n → ref02_Put_L0_L2 n u i x k ns K = K u i (x / 256 ^ (i - k).toNat) ns
  | 0, i, k, x, _, _, _, _, _, h => by omega
  | n + 1, i, k, x, h0, h1, h2, h3, h4, h5 => by
    rw [ref02_Put_L0_L2]
    unfold ref02_Put_L0_L2.body
    by_cases h : k < i
    · have e : IntKind.wrap .u64 (Int.tdiv x 256) = x / 256 := by
        rw [Int.tdiv_eq_ediv_of_nonneg h3, wu64 (by omega) (by omega)]
      rw [cond_pos (by simpa using h), e, w64 (by omega) (by omega), innerL u ns K n i (k + 1) (x / 256) (by omega) (by omega) h2 (by omega) (by omega) (by omega)]
      congr 1
      rw [show (i - k).toNat = (i - (k + 1)).toNat + 1 by omega, Int.pow_succ, Int.mul_comm, Int.ediv_ediv_of_nonneg (by omega)]
    · rw [cond_neg (by simpa using h)]
      rw [show (i - k).toNat = 0 by omega]
      simp
theorem outerL (u : Int) (hu : 0 ≤ u ∧ u < 18446744073709551616) (K : List Int → Option Bool) : ∀ (n : Nat) (m : Nat) (acc : List Int), m ≤ 8 → acc.length ≤ 4194304 - m → m < n → ref02_Put_L0 n u ((m : Int) - 1) acc K = K (acc ++ bts u m)
  | 0, m, acc, _, _, h => by omega
  | n + 1, 0, acc, _, _, h => by
    rw [ref02_Put_L0]
    unfold ref02_Put_L0.body
    rw [cond_neg (by simp)]
    simp [bts]
  | n + 1, m + 1, acc, h1, h2, h3 => by
    rw [ref02_Put_L0]
    unfold ref02_Put_L0.body
    rw [cond_pos (decide_eq_true (by omega)), innerL u acc _ ROUNDS _ 0 u (by omega) (by omega) (by omega) hu.1 hu.2 (by unfold ROUNDS; omega)]
    rw [show ((((m + 1 : Nat) : Int) - 1) - 0).toNat = m by omega]
    have hb : 0 ≤ u / 256 ^ m := Int.ediv_nonneg hu.1 (Int.pow_nonneg (by omega))
    have e : IntKind.wrap .u8 (Int.tmod (u / 256 ^ m) 256) = (u / 256 ^ m) % 256 := by
      rw [Int.tmod_eq_emod_of_nonneg hb, w8_eq]
      omega
    rw [e, ble_t (by simp; omega), cond_t, w64 (by omega) (by omega), show ((m + 1 : Nat) : Int) - 1 - 1 = (m : Int) - 1 by omega, outerL u hu K n m _ (by omega) (by simp; omega) (by omega)]
    rw [List.append_assoc]
    first | rfl | (simp [bts])
theorem rput_ {ns : List Int} (hl : ns.length ≤ 100000) (n w : Int) (k : List Int → Option Bool) : ref02_Put ns n w k = k (if w < 1 ∨ w > 8 then ns else ns ++ bts (u64 n) w.toNat) := by
  unfold ref02_Put ref02_Put.body
  rw [ble_t (by omega), cond_t]
  by_cases h1 : w < 1
  · rw [if_pos (.inl h1), cond_neg (not_f h1)]
  · by_cases h2 : w > 8
    · rw [if_pos (.inr h2), cond_pos (not_t h1), cond_pos (decide_eq_true h2)]
    · rw [if_neg (by omega), cond_pos (not_t h1), cond_neg (decide_eq_false h2), w64 (by omega) (by omega), wu64_eq]
      have := outerL (u64 n) (u64_lo n) (fun ns29 => k ns29) ROUNDS w.toNat ns (by omega) (by omega) (by unfold ROUNDS; omega)
      rw [show ((w.toNat : Nat) : Int) - 1 = w - 1 by omega] at this
      exact this
theorem fdiv_byte (n : Int) (m : Nat) (c : Int) (hc : c = 256 ^ m) (hm : m ≤ 7) : IntKind.wrap .u8 (Int.fdiv n c) = (u64 n / 256 ^ m) % 256 := by
  subst hc
  rw [w8_eq]
  have h0 : (0 : Int) ≤ 256 ^ m := Int.pow_nonneg (by omega)
  rw [Int.fdiv_eq_ediv_of_nonneg _ h0]
  unfold u64
  rcases m with _ | _ | _ | _ | _ | _ | _ | _ | m
  all_goals first | omega | (simp only [Nat.zero_add, Nat.reduceAdd, Int.reducePow] ; omega)
theorem putCells (ns : List Int) (n w : Int) (h1 : 1 ≤ w) (h2 : w ≤ 8) : List.take (Int.toNat (8 - (8 - w))) (List.drop (Int.toNat (8 - w)) ((IntKind.wrap .u8 (Int.fdiv n 72057594037927936)) :: (IntKind.wrap .u8 (Int.fdiv n 281474976710656)) :: (IntKind.wrap .u8 (Int.fdiv n 1099511627776)) :: (IntKind.wrap .u8 (Int.fdiv n 4294967296)) :: (IntKind.wrap .u8 (Int.fdiv n 16777216)) :: (IntKind.wrap .u8 (Int.fdiv n 65536)) :: (IntKind.wrap .u8 (Int.fdiv n 256)) :: (IntKind.wrap .u8 (Int.fdiv n 1)) :: [])) = bts (u64 n) w.toNat := by
  rw [fdiv_byte n 7 72057594037927936 rfl (by omega), fdiv_byte n 6 281474976710656 rfl (by omega), fdiv_byte n 5 1099511627776 rfl (by omega), fdiv_byte n 4 4294967296 rfl (by omega), fdiv_byte n 3 16777216 rfl (by omega), fdiv_byte n 2 65536 rfl (by omega), fdiv_byte n 1 256 rfl (by omega), fdiv_byte n 0 1 rfl (by omega)]
  have : w = 1 ∨ w = 2 ∨ w = 3 ∨ w = 4 ∨ w = 5 ∨ w = 6 ∨ w = 7 ∨ w = 8 := by omega
  rcases this with rfl | rfl | rfl | rfl | rfl | rfl | rfl | rfl <;> rfl
theorem w64_cong {a b : Int} (h : a % 18446744073709551616 = b % 18446744073709551616) : IntKind.wrap .i64 a = IntKind.wrap .i64 b := by
  rw [IntKind.wrap_i64, IntKind.wrap_i64]
  omega
theorem w64_mod (a : Int) : IntKind.wrap .i64 a % 18446744073709551616 = a % 18446744073709551616 := by
  rw [IntKind.wrap_i64]
  omega
theorem ofInt_nat (a : Int) : (BitVec.ofInt 64 a).toNat = (a % 18446744073709551616).toNat := by
  rw [BitVec.toNat_ofInt]
  rfl
theorem or_byte (U b : Int) (hb : 0 ≤ b ∧ b < 256) : IntKind.wrap .i64 (((BitVec.toNat ((BitVec.ofInt 64 (IntKind.wrap .i64 (IntKind.wrap .i64 U * 256))) ||| (BitVec.ofInt 64 (IntKind.wrap .i64 b)))) : Nat) : Int) = IntKind.wrap .i64 (U * 256 + b) := by
  apply w64_cong
  rw [BitVec.toNat_or, ofInt_nat, ofInt_nat, w64_mod, w64_mod]
  have e1 : (IntKind.wrap .i64 U * 256) % 18446744073709551616 = (U % 72057594037927936) * 256 := by
    have := w64_mod U
    omega
  have e2 : b % 18446744073709551616 = b := by omega
  rw [e1, e2]
  have e3 : ((U % 72057594037927936) * 256).toNat = (U % 72057594037927936).toNat <<< 8 := by
    rw [Nat.shiftLeft_eq]
    omega
  rw [e3, ← Nat.shiftLeft_add_eq_or_of_lt (by omega : b.toNat < 2 ^ 8), Nat.shiftLeft_eq]
  omega
/-- bytes as a number -/
def val (bs : List Int) : Int := bs.foldl (fun u b => u * 256 + b) 0
theorem val_snoc (bs : List Int) (b : Int) : val (bs ++ [b]) = val bs * 256 + b := by simp [val]
def bytesOk (ns : List Int) : Prop := ∀ x ∈ ns, 0 ≤ x ∧ x < 256
theorem cut_snoc {ns : List Int} {m i : Nat} (h : m + i < ns.length) : (ns.drop m).take (i + 1) = (ns.drop m).take i ++ [ns.getD (m + i) 0] := by
  rw [List.take_add_one]
  congr 1
  rw [List.getElem?_drop, List.getElem?_eq_getElem h, List.getD_eq_getElem?_getD, List.getElem?_eq_getElem h]
  rfl
theorem getD_ok {ns : List Int} (h : bytesOk ns) {i : Nat} (hi : i < ns.length) : 0 ≤ ns.getD i 0 ∧ ns.getD i 0 < 256 := by
  rw [List.getD_eq_getElem?_getD, List.getElem?_eq_getElem hi]
  exact h _ (List.getElem_mem _)
theorem val_lt {ns : List Int} (h : bytesOk ns) : ∀ (m i : Nat), m + i ≤ ns.length → 0 ≤ val ((ns.drop m).take i) ∧ val ((ns.drop m).take i) < 256 ^ i
  | m, 0, _ => by simp [val]
  | m, i + 1, hi => by
    have := val_lt h m i (by omega)
    have hb := getD_ok h (i := m + i) (by omega)
    rw [cut_snoc (by omega), val_snoc, Int.pow_succ]
    omega
theorem numL {ns : List Int} (h : bytesOk ns) (hl : ns.length ≤ 100000) {m l : Nat} (hm : m + l ≤ ns.length) (a : Int) (b c : Bool) (k : Int → Nat → Nat → Int → Bool → Bool → List Int → Option Bool) : ∀ (n i : Nat), i ≤ l → l - i < n →
    octet_number_L0v1 n (IntKind.wrap .i64 (val ((ns.drop m).take i))) m l m l ((l : Nat) : Int) ((i : Nat) : Int) a b c ns k = k (IntKind.wrap .i64 (val ((ns.drop m).take l))) m l a b c ns
  | 0, i, _, h2 => by omega
  | n + 1, i, h1, h2 => by
    rw [octet_number_L0v1]
    unfold octet_number_L0v1.body
    by_cases hi : i < l
    · have hb := getD_ok h (i := m + i) (by omega)
      rw [cond_pos (decide_eq_true (by omega)), cond_pos (by simp; omega), Int.toNat_natCast, or_byte _ _ hb, ← val_snoc, ← cut_snoc (by omega), w64 (n := (i : Int) + 1) (by omega) (by omega), show ((i : Nat) : Int) + 1 = ((i + 1 : Nat) : Int) by omega]
      exact numL h hl hm a b c k n (i + 1) (by omega) (by omega)
    · rw [cond_neg (decide_eq_false (by omega)), show i = l by omega]
theorem take_ {ns : List Int} (hl : ns.length ≤ 100000) {a : Int} (ha : 0 ≤ a ∧ a ≤ (ns.length : Int)) (w : Int) (bad : Bool) (k1 : Int → Bool → Bool → List Int → List Int → Option Bool) (k2 : Nat → Nat → Int → Bool → Bool → List Int → Option Bool) :
    octet_Reader_take w a true bad ns k1 k2 = if bad = true ∨ w < 0 ∨ w > (ns.length : Int) - a then k1 a true true ns [] else k2 a.toNat w.toNat (a + w) true bad ns := by
  unfold octet_Reader_take octet_Reader_take.body octet_Reader_Bad octet_Reader_Bad.body octet_Reader_Left octet_Reader_Left.body octet_Reader_spoil octet_Reader_spoil.body
  dsimp only
  rw [cond_pos (by rfl)]
  cases bad with
  | true => simp
  | false =>
    rw [cond_pos (by rfl)]
    by_cases h1 : w < 0
    · rw [cond_neg (not_f h1), if_pos (.inr (.inl h1))]
    · rw [cond_pos (not_t h1), w64 (n := (ns.length : Int) - a) (by omega) (by omega)]
      by_cases h2 : w > (ns.length : Int) - a
      · rw [cond_pos (decide_eq_true h2), if_pos (.inr (.inr h2))]
      · rw [cond_neg (decide_eq_false h2), if_neg (by simp; omega), w64 (n := a + w) (by omega) (by omega), w64 (n := a + w - w) (by omega) (by omega), cond_pos (by simp; omega)]
        rw [show a + w - w = a by omega, show a + w - a = w by omega]
theorem numNil (a : Int) (b c : Bool) (ns : List Int) (k : Int → Int → Bool → Bool → List Int → List Int → Option Bool) : octet_number_L0 ROUNDS 0 (([] : List Int).length : Int) 0 a b c ns [] k = k 0 a b c ns [] := by
  have e : octet_number_L0 ROUNDS = octet_number_L0 (1180591620717411303423 + 1) := rfl
  rw [e, octet_number_L0]
  simp [octet_number_L0.body]
theorem number_ {ns : List Int} (h : bytesOk ns) (hl : ns.length ≤ 100000) {a : Int} (ha : 0 ≤ a ∧ a ≤ (ns.length : Int)) (w : Int) (bad : Bool) (k1 : Int → Int → Bool → Bool → List Int → List Int → Option Bool) (k2 : Int → Nat → Nat → Int → Bool → Bool → List Int → Option Bool) :
    octet_number w a true bad ns k1 k2 = if bad = true ∨ w < 1 ∨ w > 8 ∨ w > (ns.length : Int) - a then k1 0 a true true ns [] else k2 (IntKind.wrap .i64 (val ((ns.drop a.toNat).take w.toNat))) a.toNat w.toNat (a + w) true bad ns := by
  unfold octet_number octet_number.body
  by_cases h1 : w < 1
  · rw [cond_neg (not_f h1), take_ hl ha, if_pos (by omega), if_pos (by omega), numNil]
  · rw [cond_pos (not_t h1)]
    by_cases h2 : w > 8
    · rw [cond_pos (decide_eq_true h2), take_ hl ha, if_pos (by omega), if_pos (by omega), numNil]
    · rw [cond_neg (decide_eq_false h2), take_ hl ha]
      by_cases h3 : bad = true ∨ w < 0 ∨ w > (ns.length : Int) - a
      · rw [if_pos h3, if_pos (by rcases h3 with h | h | h; exact .inl h; omega; exact .inr (.inr (.inr h))), numNil]
      · have h3' : ¬ (bad = true) := fun e => h3 (.inl e)
        rw [if_neg h3, if_neg (by rintro (h | h | h | h); exact h3' h; omega; omega; exact h3 (.inr (.inr h)))]
        have := numL h hl (m := a.toNat) (l := w.toNat) (by omega) (a + w) true bad (fun n168 m169 m170 n171 b172 b173 ns174 => k2 n168 m169 m170 n171 b172 b173 ns174) ROUNDS 0 (by omega) (by unfold ROUNDS; omega)
        rw [List.take_zero] at this
        exact this
theorem octet_Put_ {ns : List Int} (hl : ns.length ≤ 100000) (n w : Int) (k : List Int → Option Bool) : octet_Put ns n w k = k (if w < 1 ∨ w > 8 then ns else ns ++ bts (u64 n) w.toNat) := by
  unfold octet_Put octet_Put.body
  rw [ble_t (by omega), cond_t]
  by_cases h1 : w < 1
  · rw [if_pos (.inl h1), cond_neg (not_f h1)]; rfl
  · by_cases h2 : w > 8
    · rw [if_pos (.inr h2), cond_pos (not_t h1), cond_pos (decide_eq_true h2)]; rfl
    · rw [if_neg (by omega), cond_pos (not_t h1), cond_neg (decide_eq_false h2), w64 (n := 8 - w) (by omega) (by omega), cond_pos (by simp; omega), putCells ns n w (by omega) (by omega), ble_t (by rw [bts_len]; simp; omega), cond_t]
      rfl
theorem seqt {a b : ByteArray} (h : a = b) : (a.toList == b.toList) = true := by rw [h]; exact beq_self_eq_true _
theorem seqf {a b : ByteArray} (h : a ≠ b) : (a.toList == b.toList) = false := by
  rw [ByteArray.toList_eq, ByteArray.toList_eq, beq_eq_false_iff_ne]
  intro he
  apply h
  cases a with | mk a =>
  cases b with | mk b =>
  exact congrArg ByteArray.mk (Array.toList_inj.1 he)
theorem bytes_inj : ∀ {a b : List Int}, (∀ x ∈ a, 0 ≤ x ∧ x < 256) → (∀ x ∈ b, 0 ≤ x ∧ x < 256) → a.map (fun n => UInt8.ofNat n.toNat) = b.map (fun n => UInt8.ofNat n.toNat) → a = b
  | [], [], _, _, _ => rfl
  | [], _ :: _, _, _, h => by simp at h
  | _ :: _, [], _, _, h => by simp at h
  | x :: a, y :: b, ha, hb, h => by
    simp only [List.map_cons, List.cons.injEq] at h
    obtain ⟨h1, h2⟩ := h
    have hx := ha x List.mem_cons_self
    have hy := hb y List.mem_cons_self
    have e : x = y := by
      have := congrArg UInt8.toNat h1
      simp only [UInt8.toNat_ofNat'] at this
      omega
    rw [e, bytes_inj (fun z hz => ha z (List.mem_cons_of_mem _ hz)) (fun z hz => hb z (List.mem_cons_of_mem _ hz)) h2]
theorem strOf_inj {a b : List Int} (ha : ∀ x ∈ a, 0 ≤ x ∧ x < 256) (hb : ∀ x ∈ b, 0 ≤ x ∧ x < 256) (h : strOf a = strOf b) : a = b := by
  refine bytes_inj ha hb ?_
  have h := congrArg (fun s : ByteArray => s.data.toList) h
  simpa [strOf] using h
/-- a sum's state -/
def stp (s : Int × Int) (b : Int) : Int × Int := ((s.1 + b) % 65521, (s.2 + (s.1 + b) % 65521) % 65521)
def stOk (s : Int × Int) : Prop := 0 ≤ s.1 ∧ s.1 < 65521 ∧ 0 ≤ s.2 ∧ s.2 < 65521
theorem stp_ok {s : Int × Int} (b : Int) : stOk (stp s b) := by unfold stOk stp; dsimp only; omega
theorem fold_ok : ∀ (l : List Int) {s : Int × Int}, stOk s → stOk (l.foldl stp s)
  | [], _, h => h
  | b :: r, s, _ => fold_ok r (stp_ok b)
theorem take_snoc {ns : List Int} {i : Nat} (h : i < ns.length) : ns.take (i + 1) = ns.take i ++ [ns.getD i 0] := by
  rw [List.take_add_one, List.getElem?_eq_getElem h, List.getD_eq_getElem?_getD, List.getElem?_eq_getElem h]
  rfl
theorem byte_at {ns : List Int} (h : bytesOk ns) {i : Nat} (hi : i < ns.length) : 0 ≤ ns.getD i 0 ∧ ns.getD i 0 < 256 := getD_ok h hi
theorem addL {ns : List Int} (h : bytesOk ns) (hl : ns.length ≤ 100000) {s : Int × Int} (hs : stOk s) (k : Int × Int × Bool × Unit → Option Bool) : ∀ (n i : Nat), i ≤ ns.length → ns.length - i < n →
    sum_Adder_Add_L0 n ns (ns.length : Int) (i : Int) (((ns.take i).foldl stp s).1, ((ns.take i).foldl stp s).2, true, ()) k = k ((ns.foldl stp s).1, (ns.foldl stp s).2, true, ())
  | 0, i, _, g => by omega
  | n + 1, i, g1, g2 => by
    rw [sum_Adder_Add_L0]
    unfold sum_Adder_Add_L0.body
    by_cases hi : i < ns.length
    · have hb := byte_at h hi
      have ih := addL h hl hs k n (i + 1) (by omega) (by omega)
      rw [take_snoc hi, List.foldl_append] at ih
      have ho := fold_ok (ns.take i) hs
      generalize (ns.take i).foldl stp s = t at ih ho ⊢
      obtain ⟨x, y⟩ := t
      obtain ⟨o1, o2, o3, o4⟩ := ho
      dsimp only at o1 o2 o3 o4 ⊢
      have e1 : Int.tmod (x + ns.getD i 0) 65521 = (x + ns.getD i 0) % 65521 := Int.tmod_eq_emod_of_nonneg (by omega)
      have e2 : Int.tmod (y + (x + ns.getD i 0) % 65521) 65521 = (y + (x + ns.getD i 0) % 65521) % 65521 := Int.tmod_eq_emod_of_nonneg (by omega)
      simp (disch := first | omega | (simp only [List.length_append, List.length_cons, List.length_nil, List.length_set, List.length_take, List.length_drop, List.length_replicate]; omega) | fail) only [cond_t, cond_f, dt, df, w64, wu64, w8, ble_t, ble_f, ieqt, ieqf, inet, inef, Bool.not_true, Bool.not_false, Bool.true_and, Bool.and_true, Bool.false_and, Bool.and_false, Bool.not_not, Int.toNat_natCast, List.length_append, List.length_cons, List.length_nil, meet_self, e1, e2]
      exact ih
    · simp (disch := first | omega | (simp only [List.length_append, List.length_cons, List.length_nil, List.length_set, List.length_take, List.length_drop, List.length_replicate]; omega) | fail) only [cond_t, cond_f, dt, df, w64, wu64, w8, ble_t, ble_f, ieqt, ieqf, inet, inef, Bool.not_true, Bool.not_false, Bool.true_and, Bool.and_true, Bool.false_and, Bool.and_false, Bool.not_not, Int.toNat_natCast, List.length_append, List.length_cons, List.length_nil, meet_self]
      rw [List.take_of_length_le (by omega)]
theorem add_ {ns : List Int} (h : bytesOk ns) (hl : ns.length ≤ 100000) {x y : Int} (hs : stOk (x, y)) (k : Int × Int × Bool × Unit → Option Bool) : sum_Adder_Add ns (x, y, true, ()) k = k ((ns.foldl stp (x, y)).1, (ns.foldl stp (x, y)).2, true, ()) := by
  unfold sum_Adder_Add sum_Adder_Add.body
  simp (disch := first | omega | (simp only [List.length_append, List.length_cons, List.length_nil, List.length_set, List.length_take, List.length_drop, List.length_replicate]; omega) | fail) only [cond_t, cond_f, dt, df, w64, wu64, w8, ble_t, ble_f, ieqt, ieqf, inet, inef, Bool.not_true, Bool.not_false, Bool.true_and, Bool.and_true, Bool.false_and, Bool.and_false, Bool.not_not, Int.toNat_natCast, List.length_append, List.length_cons, List.length_nil, meet_self]
  exact addL h hl hs k ROUNDS 0 (by omega) (by unfold ROUNDS; omega)
theorem add0_ {ns : List Int} {x y : Int} (k : Int × Int × Bool × Unit → Option Bool) : sum_Adder_Add ns (x, y, false, ()) k = k (x, y, false, ()) := by
  unfold sum_Adder_Add sum_Adder_Add.body
  simp (disch := first | omega | (simp only [List.length_append, List.length_cons, List.length_nil, List.length_set, List.length_take, List.length_drop, List.length_replicate]; omega) | fail) only [cond_t, cond_f, dt, df, w64, wu64, w8, ble_t, ble_f, ieqt, ieqf, inet, inef, Bool.not_true, Bool.not_false, Bool.true_and, Bool.and_true, Bool.false_and, Bool.and_false, Bool.not_not, Int.toNat_natCast, List.length_append, List.length_cons, List.length_nil, meet_self]
theorem or_two {x y : Int} (hx : 0 ≤ x ∧ x < 65521) (hy : 0 ≤ y ∧ y < 65521) : IntKind.wrap .i64 (((BitVec.toNat ((BitVec.ofInt 64 (IntKind.wrap .i64 (y * 65536))) ||| (BitVec.ofInt 64 x)) : Nat) : Int)) = y * 65536 + x := by
  rw [BitVec.toNat_or, ofInt_nat, ofInt_nat, w64 (n := y * 65536) (by omega) (by omega)]
  have e1 : (y * 65536 % 18446744073709551616).toNat = y.toNat <<< 16 := by rw [Nat.shiftLeft_eq]; omega
  have e2 : (x % 18446744073709551616).toNat = x.toNat := by omega
  rw [e1, e2, ← Nat.shiftLeft_add_eq_or_of_lt (by omega : x.toNat < 2 ^ 16), Nat.shiftLeft_eq, w64 (by omega) (by omega)]
  omega
def code (s : Int × Int) : Int := s.2 * 65536 + s.1
def sumOf (ns : List Int) : Int := code (ns.foldl stp (1, 0))
theorem st0 : stOk (1, 0) := by unfold stOk; dsimp only; omega
theorem sumOf_in (ns : List Int) : 0 ≤ sumOf ns ∧ sumOf ns < 4294967296 := by
  have h := fold_ok ns st0
  unfold stOk at h
  unfold sumOf code
  omega
theorem sum_ {x y : Int} (hs : stOk (x, y)) (k : Int → Int × Int × Bool × Unit → Option Bool) : sum_Adder_Sum (x, y, true, ()) k = k (code (x, y)) (x, y, true, ()) := by
  unfold sum_Adder_Sum sum_Adder_Sum.body
  obtain ⟨o1, o2, o3, o4⟩ := hs
  dsimp only at o1 o2 o3 o4 ⊢
  rw [or_two ⟨o1, o2⟩ ⟨o3, o4⟩]
  simp (disch := first | omega | (simp only [List.length_append, List.length_cons, List.length_nil, List.length_set, List.length_take, List.length_drop, List.length_replicate]; omega) | fail) only [cond_t, cond_f, dt, df, w64, wu64, w8, ble_t, ble_f, ieqt, ieqf, inet, inef, Bool.not_true, Bool.not_false, Bool.true_and, Bool.and_true, Bool.false_and, Bool.and_false, Bool.not_not, Int.toNat_natCast, List.length_append, List.length_cons, List.length_nil, meet_self]
  rfl
theorem sum0_ {x y : Int} (k : Int → Int × Int × Bool × Unit → Option Bool) : sum_Adder_Sum (x, y, false, ()) k = k 0 (x, y, false, ()) := by
  unfold sum_Adder_Sum sum_Adder_Sum.body
  simp (disch := first | omega | (simp only [List.length_append, List.length_cons, List.length_nil, List.length_set, List.length_take, List.length_drop, List.length_replicate]; omega) | fail) only [cond_t, cond_f, dt, df, w64, wu64, w8, ble_t, ble_f, ieqt, ieqf, inet, inef, Bool.not_true, Bool.not_false, Bool.true_and, Bool.and_true, Bool.false_and, Bool.and_false, Bool.not_not, Int.toNat_natCast, List.length_append, List.length_cons, List.length_nil, meet_self]
theorem rofL {ns : List Int} (h : bytesOk ns) (hl : ns.length ≤ 100000) (k : Int → Int → Option Bool) : ∀ (n i : Nat), i ≤ ns.length → ns.length - i < n →
    ref03_Of_L0 n ns ((ns.take i).foldl stp (1, 0)).1 ((ns.take i).foldl stp (1, 0)).2 (i : Int) k = k (ns.foldl stp (1, 0)).1 (ns.foldl stp (1, 0)).2
  | 0, i, _, g => by omega
  | n + 1, i, g1, g2 => by
    rw [ref03_Of_L0]
    unfold ref03_Of_L0.body
    by_cases hi : i < ns.length
    · have hb := byte_at h hi
      have ih := rofL h hl k n (i + 1) (by omega) (by omega)
      rw [take_snoc hi, List.foldl_append] at ih
      have ho := fold_ok (ns.take i) st0
      generalize (ns.take i).foldl stp (1, 0) = t at ih ho ⊢
      obtain ⟨x, y⟩ := t
      obtain ⟨o1, o2, o3, o4⟩ := ho
      dsimp only at o1 o2 o3 o4 ⊢
      have e1 : Int.tmod (x + ns.getD i 0) 65521 = (x + ns.getD i 0) % 65521 := Int.tmod_eq_emod_of_nonneg (by omega)
      have e2 : Int.tmod (y + (x + ns.getD i 0) % 65521) 65521 = (y + (x + ns.getD i 0) % 65521) % 65521 := Int.tmod_eq_emod_of_nonneg (by omega)
      simp (disch := first | omega | (simp only [List.length_append, List.length_cons, List.length_nil, List.length_set, List.length_take, List.length_drop, List.length_replicate]; omega) | fail) only [cond_t, cond_f, dt, df, w64, wu64, w8, ble_t, ble_f, ieqt, ieqf, inet, inef, Bool.not_true, Bool.not_false, Bool.true_and, Bool.and_true, Bool.false_and, Bool.and_false, Bool.not_not, Int.toNat_natCast, List.length_append, List.length_cons, List.length_nil, meet_self, e1, e2]
      exact ih
    · simp (disch := first | omega | (simp only [List.length_append, List.length_cons, List.length_nil, List.length_set, List.length_take, List.length_drop, List.length_replicate]; omega) | fail) only [cond_t, cond_f, dt, df, w64, wu64, w8, ble_t, ble_f, ieqt, ieqf, inet, inef, Bool.not_true, Bool.not_false, Bool.true_and, Bool.and_true, Bool.false_and, Bool.and_false, Bool.not_not, Int.toNat_natCast, List.length_append, List.length_cons, List.length_nil, meet_self]
      rw [List.take_of_length_le (by omega)]
theorem rof_ {ns : List Int} (h : bytesOk ns) (hl : ns.length ≤ 100000) (k : Int → Option Bool) : ref03_Of ns k = k (sumOf ns) := by
  unfold ref03_Of ref03_Of.body
  refine (rofL h hl _ ROUNDS 0 (by omega) (by unfold ROUNDS; omega)).trans ?_
  have ho := fold_ok ns st0
  unfold sumOf code
  obtain ⟨o1, o2, o3, o4⟩ := ho
  simp (disch := first | omega | (simp only [List.length_append, List.length_cons, List.length_nil, List.length_set, List.length_take, List.length_drop, List.length_replicate]; omega) | fail) only [cond_t, cond_f, dt, df, w64, wu64, w8, ble_t, ble_f, ieqt, ieqf, inet, inef, Bool.not_true, Bool.not_false, Bool.true_and, Bool.and_true, Bool.false_and, Bool.and_false, Bool.not_not, Int.toNat_natCast, List.length_append, List.length_cons, List.length_nil, meet_self]
theorem of_ {ns : List Int} (h : bytesOk ns) (hl : ns.length ≤ 100000) (k : Int → Option Bool) : sum_Of ns k = k (sumOf ns) := by
  unfold sum_Of sum_Of.body sum_New sum_New.body sum_feed sum_feed.body
  dsimp only
  rw [add_ h hl st0, sum_ (fold_ok ns st0)]
  rfl
theorem bytesOk_take {ns : List Int} (h : bytesOk ns) (i : Nat) : bytesOk (ns.take i) := fun x hx => h x (List.mem_of_mem_take hx)
theorem bytesOk_drop {ns : List Int} (h : bytesOk ns) (i : Nat) : bytesOk (ns.drop i) := fun x hx => h x (List.mem_of_mem_drop hx)
theorem bytesOk_of {ns : List Int} {e : Nat} (h : okD (.sl e (.int .u8)) ns) : bytesOk ns := fun x hx => by
  have := okD_int.1 ((okD_sl.1 h).2 x hx)
  simp [Lit.wf, IntKind.min, IntKind.max, IntKind.bits, IntKind.signed, i_] at this
  omega
theorem num_ {ns : List Int} (h : bytesOk ns) (hl : ns.length ≤ 100000) {a : Int} (ha : 0 ≤ a ∧ a ≤ (ns.length : Int)) (w : Int) (bad : Bool) (k : Int → Int → Bool → Bool → List Int → Option Bool) :
    octet_Reader_Num w a true bad ns k = if bad = true ∨ w < 1 ∨ w > 8 ∨ w > (ns.length : Int) - a then k 0 a true true ns else k (IntKind.wrap .i64 (val ((ns.drop a.toNat).take w.toNat))) (a + w) true bad ns := by
  unfold octet_Reader_Num octet_Reader_Num.body
  rw [number_ h hl ha]
def openS (ns : List Int) : List Int × Int := if ns.length < 4 then ([], 5) else if val (ns.drop (ns.length - 4)) = sumOf (ns.take (ns.length - 4)) then (ns.take (ns.length - 4), 0) else ([], 4)
theorem open_ {ns : List Int} (h : bytesOk ns) (hl : ns.length ≤ 10000) (k : Int → List Int → Option Bool) : sum_Open ns k = k (openS ns).2 (openS ns).1 := by
  unfold sum_Open sum_Open.body openS
  by_cases c : ns.length < 4
  · rw [if_pos c]
    simp (disch := first | omega | (simp only [List.length_append, List.length_cons, List.length_nil, List.length_set, List.length_take, List.length_drop, List.length_replicate]; omega) | fail) only [cond_t, cond_f, dt, df, w64, wu64, w8, ble_t, ble_f, ieqt, ieqf, inet, inef, Bool.not_true, Bool.not_false, Bool.true_and, Bool.and_true, Bool.false_and, Bool.and_false, Bool.not_not, Int.toNat_natCast, List.length_append, List.length_cons, List.length_nil, meet_self]
  · rw [if_neg c]
    have e1 : ((ns.length : Int) - 4).toNat = ns.length - 4 := by omega
    have e2 : List.take (ns.length - (ns.length - 4)) (ns.drop (ns.length - 4)) = ns.drop (ns.length - 4) := List.take_of_length_le (by rw [List.length_drop]; omega)
    have hd : (ns.drop (ns.length - 4)).length = 4 := by rw [List.length_drop]; omega
    have hbd := bytesOk_drop h (ns.length - 4)
    have hbt := bytesOk_take h (ns.length - 4)
    have hlt : (ns.take (ns.length - 4)).length ≤ 100000 := by rw [List.length_take]; omega
    unfold octet_New octet_New.body
    simp (disch := first | omega | (simp only [List.length_append, List.length_cons, List.length_nil, List.length_set, List.length_take, List.length_drop, List.length_replicate]; omega) | fail) only [cond_t, cond_f, dt, df, w64, wu64, w8, ble_t, ble_f, ieqt, ieqf, inet, inef, Bool.not_true, Bool.not_false, Bool.true_and, Bool.and_true, Bool.false_and, Bool.and_false, Bool.not_not, Int.toNat_natCast, List.length_append, List.length_cons, List.length_nil, meet_self, e1, e2, Int.sub_zero, List.drop_zero, List.nil_append]
    rw [num_ hbd (by omega) ⟨by omega, by omega⟩, if_neg (by rintro (g | g | g | g); cases g; omega; omega; omega)]
    have hv := val_lt hbd 0 4 (by omega)
    rw [List.drop_zero, List.take_of_length_le (l := ns.drop (ns.length - 4)) (by omega)] at hv
    rw [show (0 : Int).toNat = 0 from rfl, List.drop_zero, show (4 : Int).toNat = 4 from rfl, List.take_of_length_le (l := ns.drop (ns.length - 4)) (by omega)]
    rw [w64 (n := val (ns.drop (ns.length - 4))) (by omega) (by omega), of_ hbt hlt]
    by_cases c2 : val (ns.drop (ns.length - 4)) = sumOf (ns.take (ns.length - 4))
    · rw [if_pos c2]
      simp (disch := first | omega | (simp only [List.length_append, List.length_cons, List.length_nil, List.length_set, List.length_take, List.length_drop, List.length_replicate]; omega) | fail) only [cond_t, cond_f, dt, df, w64, wu64, w8, ble_t, ble_f, ieqt, ieqf, inet, inef, Bool.not_true, Bool.not_false, Bool.true_and, Bool.and_true, Bool.false_and, Bool.and_false, Bool.not_not, Int.toNat_natCast, List.length_append, List.length_cons, List.length_nil, meet_self, List.nil_append]
    · rw [if_neg c2]
      simp (disch := first | omega | (simp only [List.length_append, List.length_cons, List.length_nil, List.length_set, List.length_take, List.length_drop, List.length_replicate]; omega) | fail) only [cond_t, cond_f, dt, df, w64, wu64, w8, ble_t, ble_f, ieqt, ieqf, inet, inef, Bool.not_true, Bool.not_false, Bool.true_and, Bool.and_true, Bool.false_and, Bool.and_false, Bool.not_not, Int.toNat_natCast, List.length_append, List.length_cons, List.length_nil, meet_self]
theorem bts_bytes (u : Int) : ∀ m, ∀ x ∈ bts u m, 0 ≤ x ∧ x < 256
  | 0, x, h => by cases h
  | m + 1, x, h => by
    rcases List.mem_cons.1 h with h | h
    · subst h; omega
    · exact bts_bytes u m x h
theorem four {l : List Int} (h : bytesOk l) (hl : l.length = 4) (v : Int) (hv : 0 ≤ v ∧ v < 4294967296) : val l = v ↔ l = bts v 4 := by
  match l, hl with
  | [a, b, c, d], _ =>
    have h1 := h a (by simp)
    have h2 := h b (by simp)
    have h3 := h c (by simp)
    have h4 := h d (by simp)
    have e : bts v 4 = [(v / 16777216) % 256, (v / 65536) % 256, (v / 256) % 256, v % 256] := by simp [bts]
    rw [e]
    unfold val
    simp only [List.foldl_cons, List.foldl_nil, List.cons.injEq, and_true]
    omega
theorem rseal_ {ns : List Int} (h : bytesOk ns) (hl : ns.length ≤ 10000) (k : List Int → Option Bool) : ref03_Seal ns k = k (ns ++ bts (sumOf ns) 4) := by
  unfold ref03_Seal ref03_Seal.body
  rw [rof_ h (by omega), rput_ (by omega), if_neg (by omega)]
  have := sumOf_in ns
  rw [show u64 (sumOf ns) = sumOf ns by unfold u64; omega]
  rfl
theorem seal_ {ns : List Int} (h : bytesOk ns) (hl : ns.length ≤ 10000) (k : List Int → Option Bool) : sum_Seal ns k = k (ns ++ bts (sumOf ns) 4) := by
  unfold sum_Seal sum_Seal.body
  rw [of_ h (by omega), octet_Put_ (by omega), if_neg (by omega)]
  have := sumOf_in ns
  rw [show u64 (sumOf ns) = sumOf ns by unfold u64; omega]
  rfl
theorem ropen_ {ns : List Int} (h : bytesOk ns) (hl : ns.length ≤ 10000) (k : List Int → Int → Option Bool) : ref03_Open ns k = k (openS ns).1 (openS ns).2 := by
  unfold ref03_Open ref03_Open.body openS
  by_cases c : ns.length < 4
  · rw [if_pos c]
    simp (disch := first | omega | (simp only [List.length_append, List.length_cons, List.length_nil, List.length_set, List.length_take, List.length_drop, List.length_replicate]; omega) | fail) only [cond_t, cond_f, dt, df, w64, wu64, w8, ble_t, ble_f, ieqt, ieqf, inet, inef, Bool.not_true, Bool.not_false, Bool.true_and, Bool.and_true, Bool.false_and, Bool.and_false, Bool.not_not, Int.toNat_natCast, List.length_append, List.length_cons, List.length_nil, meet_self]
  · rw [if_neg c]
    have e1 : ((ns.length : Int) - 4).toNat = ns.length - 4 := by omega
    have hd : (ns.drop (ns.length - 4)).length = 4 := by rw [List.length_drop]; omega
    have hbd := bytesOk_drop h (ns.length - 4)
    have hbt := bytesOk_take h (ns.length - 4)
    have hlt : (ns.take (ns.length - 4)).length ≤ 10000 := by rw [List.length_take]; omega
    have hs := sumOf_in (ns.take (ns.length - 4))
    simp (disch := first | omega | (simp only [List.length_append, List.length_cons, List.length_nil, List.length_set, List.length_take, List.length_drop, List.length_replicate]; omega) | fail) only [cond_t, cond_f, dt, df, w64, wu64, w8, ble_t, ble_f, ieqt, ieqf, inet, inef, Bool.not_true, Bool.not_false, Bool.true_and, Bool.and_true, Bool.false_and, Bool.and_false, Bool.not_not, Int.toNat_natCast, List.length_append, List.length_cons, List.length_nil, meet_self, e1, Int.sub_zero, List.drop_zero]
    rw [rseal_ hbt hlt]
    have hf := four hbd hd _ hs
    have hsp := List.take_append_drop (ns.length - 4) ns
    by_cases c2 : val (ns.drop (ns.length - 4)) = sumOf (ns.take (ns.length - 4))
    · rw [if_pos c2]
      rw [hf] at c2
      have e : ns.take (ns.length - 4) ++ bts (sumOf (ns.take (ns.length - 4))) 4 = ns := by rw [← c2]; exact hsp
      rw [e, seqt rfl]
      simp (disch := first | omega | (simp only [List.length_append, List.length_cons, List.length_nil, List.length_set, List.length_take, List.length_drop, List.length_replicate]; omega) | fail) only [cond_t, cond_f, dt, df, w64, wu64, w8, ble_t, ble_f, ieqt, ieqf, inet, inef, Bool.not_true, Bool.not_false, Bool.true_and, Bool.and_true, Bool.false_and, Bool.and_false, Bool.not_not, Int.toNat_natCast, List.length_append, List.length_cons, List.length_nil, meet_self]
    · rw [if_neg c2]
      have : strOf (ns.take (ns.length - 4) ++ bts (sumOf (ns.take (ns.length - 4))) 4) ≠ strOf ns := by
        intro he
        apply c2
        rw [hf]
        have := strOf_inj (fun x hx => by
          rcases List.mem_append.1 hx with hx | hx
          · exact hbt x hx
          · exact bts_bytes _ _ x hx) h he
        have h2 := hsp.trans this.symm
        exact List.append_cancel_left h2
      rw [seqf this]
      simp (disch := first | omega | (simp only [List.length_append, List.length_cons, List.length_nil, List.length_set, List.length_take, List.length_drop, List.length_replicate]; omega) | fail) only [cond_t, cond_f, dt, df, w64, wu64, w8, ble_t, ble_f, ieqt, ieqf, inet, inef, Bool.not_true, Bool.not_false, Bool.true_and, Bool.and_true, Bool.false_and, Bool.and_false, Bool.not_not, Int.toNat_natCast, List.length_append, List.length_cons, List.length_nil, meet_self]
theorem holds (ns : List Int) (h0 : okD (.sl 5 (.int .u8)) ns) : law03_SumsTold ns (fun y => some y) = some true := by
  have hb := bytesOk_of h0
  unfold law03_SumsTold law03_SumsTold.body law03_known
  by_cases c1 : (ns.length : Int) > 3000
  · simp (disch := first | omega | (simp only [List.length_append, List.length_cons, List.length_nil, List.length_set, List.length_take, List.length_drop, List.length_replicate]; omega) | fail) only [cond_t, cond_f, dt, df, w64, wu64, w8, ble_t, ble_f, ieqt, ieqf, inet, inef, Bool.not_true, Bool.not_false, Bool.true_and, Bool.and_true, Bool.false_and, Bool.and_false, Bool.not_not, Int.toNat_natCast, List.length_append, List.length_cons, List.length_nil, meet_self]
  · simp (disch := first | omega | (simp only [List.length_append, List.length_cons, List.length_nil, List.length_set, List.length_take, List.length_drop, List.length_replicate]; omega) | fail) only [cond_t, cond_f, dt, df, w64, wu64, w8, ble_t, ble_f, ieqt, ieqf, inet, inef, Bool.not_true, Bool.not_false, Bool.true_and, Bool.and_true, Bool.false_and, Bool.and_false, Bool.not_not, Int.toNat_natCast, List.length_append, List.length_cons, List.length_nil, meet_self]
    rw [open_ hb (by omega), ropen_ hb (by omega), of_ hb (by omega), rof_ hb (by omega)]
    simp (disch := first | omega | (simp only [List.length_append, List.length_cons, List.length_nil, List.length_set, List.length_take, List.length_drop, List.length_replicate]; omega) | fail) only [cond_t, cond_f, dt, df, w64, wu64, w8, ble_t, ble_f, ieqt, ieqf, inet, inef, Bool.not_true, Bool.not_false, Bool.true_and, Bool.and_true, Bool.false_and, Bool.and_false, Bool.not_not, Int.toNat_natCast, List.length_append, List.length_cons, List.length_nil, meet_self]
    rw [seal_ hb (by omega), rseal_ hb (by omega)]
    simp (disch := first | omega | (simp only [List.length_append, List.length_cons, List.length_nil, List.length_set, List.length_take, List.length_drop, List.length_replicate]; omega) | fail) only [cond_t, cond_f, dt, df, w64, wu64, w8, ble_t, ble_f, ieqt, ieqf, inet, inef, Bool.not_true, Bool.not_false, Bool.true_and, Bool.and_true, Bool.false_and, Bool.and_false, Bool.not_not, Int.toNat_natCast, List.length_append, List.length_cons, List.length_nil, meet_self, seqt rfl]

end Go.Proofs.Ytbplnfklimhdaaa.sumsTold
