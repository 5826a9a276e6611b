/- What the plain functions answer: the law, without program or memory. -/
import Derived.Test.YtpmgmpaodjcfjaaMG
import Derived.IntWalk
namespace Go.Proofs.Ytpmgmpaodjcfjaa.octetPuts
open Go.AX Go.Proofs.Ytpmgmpaodjcfjaa.g
set_option linter.unusedVariables false
set_option linter.unusedSimpArgs false
theorem cond_ite (b : Bool) (x y : Option Bool) : cond_ b x y = if b = true then x else y := by cases b <;> rfl
@[simp] theorem cond_t (x y : Option Bool) : cond_ true x y = x := rfl
@[simp] theorem cond_f (x y : Option Bool) : cond_ false x y = y := rfl
theorem cond_pos {b : Bool} {x y : Option Bool} (h : b = true) : cond_ b x y = x := by rw [h]; rfl
theorem cond_neg {b : Bool} {x y : Option Bool} (h : b = false) : cond_ b x y = y := by rw [h]; rfl
@[simp] theorem meet_self (x : Option Bool) : meet x x = x := by
  cases x with
  | none => rfl
  | some a => simp [meet]
theorem w64 {n : Int} (h1 : -9223372036854775808 ≤ n) (h2 : n ≤ 9223372036854775807) : IntKind.wrap .i64 n = n := IntWalk.i64_in n ⟨h1, h2⟩
theorem w8 {n : Int} (h1 : 0 ≤ n) (h2 : n ≤ 255) : IntKind.wrap .u8 n = n := IntWalk.u8_in n ⟨h1, h2⟩
theorem wu64 {n : Int} (h1 : 0 ≤ n) (h2 : n ≤ 18446744073709551615) : IntKind.wrap .u64 n = n := IntWalk.u64_in n ⟨h1, h2⟩
theorem ble_t {a b : Nat} (h : a ≤ b) : Nat.ble a b = true := by rw [Nat.ble_eq]; exact h
theorem ok64 {n : Int} (h : okD (.int .i64) n) : -9223372036854775808 ≤ n ∧ n ≤ 9223372036854775807 := by
  have := okD_int.1 h
  simpa [Lit.wf, IntKind.min, IntKind.max, IntKind.bits, IntKind.signed, i_] using this
theorem not_t {p : Prop} [Decidable p] (h : ¬p) : (!decide p) = true := by simp [h]
theorem not_f {p : Prop} [Decidable p] (h : p) : (!decide p) = false := by simp [h]
/-- the last bytes of a number -/
def bts (u : Int) : Nat → List Int
  | 0 => []
  | m + 1 => (u / 256 ^ m) % 256 :: bts u m
theorem bts_len (u : Int) : ∀ m, (bts u m).length = m
  | 0 => rfl
  | m + 1 => by simp [bts, bts_len u m]
def u64 (n : Int) : Int := n % 18446744073709551616
theorem wu64_eq (n : Int) : IntKind.wrap .u64 n = u64 n := by
  simp [IntKind.wrap, IntKind.bits, IntKind.signed, u64]
theorem w8_eq (n : Int) : IntKind.wrap .u8 n = n % 256 := by
  simp [IntKind.wrap, IntKind.bits, IntKind.signed]
theorem u64_lo (n : Int) : 0 ≤ u64 n ∧ u64 n < 18446744073709551616 := by unfold u64; omega
theorem innerL (u : Int) (ns : List Int) (K : Int → Int → Int → List Int → Option Bool) : ∀ (n : Nat) (i k x : Int), 0 ≤ k → k ≤ i → i ≤ 8 → 0 ≤ x → x < 18446744073709551616 → (i - k).toNat < n → ref02_Put_L0_L2 n u i x k ns K = K u i (x / 256 ^ (i - k).toNat) ns
  | 0, i, k, x, _, _, _, _, _, h => by omega
  | n + 1, i, k, x, h0, h1, h2, h3, h4, h5 => by
    rw [ref02_Put_L0_L2]
    unfold ref02_Put_L0_L2.body
    by_cases h : k < i
    · have e : IntKind.wrap .u64 (Int.tdiv x 256) = x / 256 := by
        rw [Int.tdiv_eq_ediv_of_nonneg h3, wu64 (by omega) (by omega)]
      rw [cond_pos (by simpa using h), e, w64 (by omega) (by omega), innerL u ns K n i (k + 1) (x / 256) (by omega) (by omega) h2 (by omega) (by omega) (by omega)]
      congr 1
      rw [show (i - k).toNat = (i - (k + 1)).toNat + 1 by omega, Int.pow_succ, Int.mul_comm, Int.ediv_ediv_of_nonneg (by omega)]
    · rw [cond_neg (by simpa using h)]
      rw [show (i - k).toNat = 0 by omega]
      simp
theorem outerL (u : Int) (hu : 0 ≤ u ∧ u < 18446744073709551616) (K : List Int → Option Bool) : ∀ (n : Nat) (m : Nat) (acc : List Int), m ≤ 8 → acc.length ≤ 4194304 - m → m < n → ref02_Put_L0 n u ((m : Int) - 1) acc K = K (acc ++ bts u m)
  | 0, m, acc, _, _, h => by omega
  | n + 1, 0, acc, _, _, h => by
    rw [ref02_Put_L0]
    unfold ref02_Put_L0.body
    rw [cond_neg (by simp)]
    simp [bts]
  | n + 1, m + 1, acc, h1, h2, h3 => by
    rw [ref02_Put_L0]
    unfold ref02_Put_L0.body
    rw [cond_pos (decide_eq_true (by omega)), innerL u acc _ ROUNDS _ 0 u (by omega) (by omega) (by omega) hu.1 hu.2 (by unfold ROUNDS; omega)]
    rw [show ((((m + 1 : Nat) : Int) - 1) - 0).toNat = m by omega]
    have hb : 0 ≤ u / 256 ^ m := Int.ediv_nonneg hu.1 (Int.pow_nonneg (by omega))
    have e : IntKind.wrap .u8 (Int.tmod (u / 256 ^ m) 256) = (u / 256 ^ m) % 256 := by
      rw [Int.tmod_eq_emod_of_nonneg hb, w8_eq]
      omega
    rw [e, ble_t (by simp; omega), cond_t, w64 (by omega) (by omega), show ((m + 1 : Nat) : Int) - 1 - 1 = (m : Int) - 1 by omega, outerL u hu K n m _ (by omega) (by simp; omega) (by omega)]
    rw [List.append_assoc]
    first | rfl | (simp [bts])
theorem rput_ {ns : List Int} (hl : ns.length ≤ 100000) (n w : Int) (k : List Int → Option Bool) : ref02_Put ns n w k = k (if w < 1 ∨ w > 8 then ns else ns ++ bts (u64 n) w.toNat) := by
  unfold ref02_Put ref02_Put.body
  rw [ble_t (by omega), cond_t]
  by_cases h1 : w < 1
  · rw [if_pos (.inl h1), cond_neg (not_f h1)]
  · by_cases h2 : w > 8
    · rw [if_pos (.inr h2), cond_pos (not_t h1), cond_pos (decide_eq_true h2)]
    · rw [if_neg (by omega), cond_pos (not_t h1), cond_neg (decide_eq_false h2), w64 (by omega) (by omega), wu64_eq]
      have := outerL (u64 n) (u64_lo n) (fun ns29 => k ns29) ROUNDS w.toNat ns (by omega) (by omega) (by unfold ROUNDS; omega)
      rw [show ((w.toNat : Nat) : Int) - 1 = w - 1 by omega] at this
      exact this
theorem fdiv_byte (n : Int) (m : Nat) (c : Int) (hc : c = 256 ^ m) (hm : m ≤ 7) : IntKind.wrap .u8 (Int.fdiv n c) = (u64 n / 256 ^ m) % 256 := by
  subst hc
  rw [w8_eq]
  have h0 : (0 : Int) ≤ 256 ^ m := Int.pow_nonneg (by omega)
  rw [Int.fdiv_eq_ediv_of_nonneg _ h0]
  unfold u64
  rcases m with _ | _ | _ | _ | _ | _ | _ | _ | m
  all_goals first | omega | (simp only [Nat.zero_add, Nat.reduceAdd, Int.reducePow] ; omega)
theorem putCells (ns : List Int) (n w : Int) (h1 : 1 ≤ w) (h2 : w ≤ 8) : List.take (Int.toNat (8 - (8 - w))) (List.drop (Int.toNat (8 - w)) ((IntKind.wrap .u8 (Int.fdiv n 72057594037927936)) :: (IntKind.wrap .u8 (Int.fdiv n 281474976710656)) :: (IntKind.wrap .u8 (Int.fdiv n 1099511627776)) :: (IntKind.wrap .u8 (Int.fdiv n 4294967296)) :: (IntKind.wrap .u8 (Int.fdiv n 16777216)) :: (IntKind.wrap .u8 (Int.fdiv n 65536)) :: (IntKind.wrap .u8 (Int.fdiv n 256)) :: (IntKind.wrap .u8 (Int.fdiv n 1)) :: [])) = bts (u64 n) w.toNat := by
  rw [fdiv_byte n 7 72057594037927936 rfl (by omega), fdiv_byte n 6 281474976710656 rfl (by omega), fdiv_byte n 5 1099511627776 rfl (by omega), fdiv_byte n 4 4294967296 rfl (by omega), fdiv_byte n 3 16777216 rfl (by omega), fdiv_byte n 2 65536 rfl (by omega), fdiv_byte n 1 256 rfl (by omega), fdiv_byte n 0 1 rfl (by omega)]
  have : w = 1 ∨ w = 2 ∨ w = 3 ∨ w = 4 ∨ w = 5 ∨ w = 6 ∨ w = 7 ∨ w = 8 := by omega
  rcases this with rfl | rfl | rfl | rfl | rfl | rfl | rfl | rfl <;> rfl
theorem octet_Put_ {ns : List Int} (hl : ns.length ≤ 100000) (n w : Int) (k : List Int → Option Bool) : octet_Put ns n w k = k (if w < 1 ∨ w > 8 then ns else ns ++ bts (u64 n) w.toNat) := by
  unfold octet_Put octet_Put.body
  rw [ble_t (by omega), cond_t]
  by_cases h1 : w < 1
  · rw [if_pos (.inl h1), cond_neg (not_f h1)]; rfl
  · by_cases h2 : w > 8
    · rw [if_pos (.inr h2), cond_pos (not_t h1), cond_pos (decide_eq_true h2)]; rfl
    · rw [if_neg (by omega), cond_pos (not_t h1), cond_neg (decide_eq_false h2), w64 (n := 8 - w) (by omega) (by omega), cond_pos (by simp; omega), putCells ns n w (by omega) (by omega), ble_t (by rw [bts_len]; simp; omega), cond_t]
      rfl
theorem bytesI_len (s : ByteArray) : (bytesI s).length = s.size := by
  unfold bytesI
  rw [List.length_map]
  rfl
theorem text_ {ns : List Int} (hl : ns.length ≤ 1000) (s : ByteArray) (hs : s.size ≤ 600) (k : List Int → Option Bool) : octet_Text ns s k = k (ns ++ bts (u64 (min s.size 255 : Nat)) 1 ++ bytesI (s.extract 0 (min s.size 255))) := by
  unfold octet_Text octet_Text.body
  have hle : (bytesI (s.extract 0 (min s.size 255))).length ≤ 600 := by
    rw [bytesI_len, ByteArray.size_extract]; omega
  by_cases h : (255 : Int) < (s.size : Int)
  · rw [if_pos h, octet_Put_ (by omega), if_neg (by omega), cond_pos (by simp; omega)]
    have e : min s.size 255 = 255 := by omega
    rw [e] at hle ⊢
    rw [ble_t (by simp only [List.length_append, bts_len]; have : (bytesI (s.extract 0 (Int.toNat 255))).length ≤ 600 := hle; omega), cond_t]
    rfl
  · rw [if_neg h, octet_Put_ (by omega), if_neg (by omega), cond_pos (by simp)]
    have e : min s.size 255 = s.size := by omega
    rw [e] at hle ⊢
    rw [ble_t (by simp only [List.length_append, bts_len, Int.toNat_natCast]; have : (bytesI (s.extract 0 s.size)).length ≤ 600 := hle; omega), cond_t]
    rfl
theorem rtext_ {ns : List Int} (hl : ns.length ≤ 1000) (s : ByteArray) (hs : s.size ≤ 600) (k : List Int → Option Bool) : ref02_Text ns s k = k (ns ++ bts (u64 (min s.size 255 : Nat)) 1 ++ bytesI (s.extract 0 (min s.size 255))) := by
  unfold ref02_Text ref02_Text.body
  have hle : (bytesI (s.extract 0 (min s.size 255))).length ≤ 600 := by
    rw [bytesI_len, ByteArray.size_extract]; omega
  by_cases h : (255 : Int) < (s.size : Int)
  · have e : min s.size 255 = 255 := by omega
    have e2 : (s.extract 0 255).size = 255 := by rw [ByteArray.size_extract]; omega
    rw [e] at hle ⊢
    rw [cond_pos (by simp; omega), cond_pos (by simp; omega), rput_ (by omega), if_neg (by omega), e2, ble_t (by simp only [List.length_append, bts_len]; omega), cond_t]
    rfl
  · have e : min s.size 255 = s.size := by omega
    rw [e] at hle ⊢
    rw [ByteArray.extract_zero_size] at hle ⊢
    rw [cond_neg (by simp; omega), rput_ (by omega), if_neg (by omega), ble_t (by simp only [List.length_append, bts_len]; omega), cond_t]
    rfl
theorem holds (ns : List Int) (n w : Int) (s : ByteArray) (h0 : okD (.sl 5 (.int .u8)) ns) (h1 : okD (.int .i64) n) (h2 : okD (.int .i64) w) (h3 : okD .str s) : law02_OctetPuts ns n w s (fun y => some y) = some true := by
  unfold law02_OctetPuts law02_OctetPuts.body law02_known
  by_cases hl : (ns.length : Int) > 300
  · rw [cond_neg (by simpa using hl)]
  · by_cases hl2 : (s.size : Int) > 600
    · rw [cond_pos (by simpa using hl), cond_pos (by simpa using hl2)]
    · rw [cond_pos (by simpa using hl), cond_neg (by simpa using hl2), octet_Put_ (by omega), octet_Put_ (by omega), text_ (by omega) s (by omega), rput_ (by omega)]
      rw [cond_pos (by simp), rput_ (by omega)]
      rw [cond_pos (by simp), rtext_ (by omega) s (by omega)]
      simp

end Go.Proofs.Ytpmgmpaodjcfjaa.octetPuts
