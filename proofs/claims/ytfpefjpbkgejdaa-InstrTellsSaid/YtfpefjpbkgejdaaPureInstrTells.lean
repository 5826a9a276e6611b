/- What the plain functions answer: the law, without program or memory. -/
import Derived.Test.YtfpefjpbkgejdaaMG
import Derived.IntWalk
import Derived.Laws.Strings
namespace Go.Proofs.Ytfpefjpbkgejdaa.instrTells
open Go.AX Go.Proofs.Ytfpefjpbkgejdaa.g
set_option linter.unusedVariables false
set_option linter.unusedSimpArgs false
theorem cond_ite (b : Bool) (x y : Option Bool) : cond_ b x y = if b = true then x else y := by cases b <;> rfl
@[simp] theorem cond_t (x y : Option Bool) : cond_ true x y = x := (cond_ite true x y).trans (if_pos rfl)
@[simp] theorem cond_f (x y : Option Bool) : cond_ false x y = y := (cond_ite false x y).trans (if_neg (by decide))
theorem cond_pos {b : Bool} {x y : Option Bool} (h : b = true) : cond_ b x y = x := by rw [h]; rfl
theorem cond_neg {b : Bool} {x y : Option Bool} (h : b = false) : cond_ b x y = y := by rw [h]; rfl
@[simp] theorem meet_self (x : Option Bool) : meet x x = x := by
  cases x with
  | none => rfl
  | some a => simp [meet]
theorem w64 {n : Int} (h1 : -9223372036854775808 ≤ n) (h2 : n ≤ 9223372036854775807) : IntKind.wrap .i64 n = n := IntWalk.i64_in n ⟨h1, h2⟩
theorem w8 {n : Int} (h1 : 0 ≤ n) (h2 : n ≤ 255) : IntKind.wrap .u8 n = n := IntWalk.u8_in n ⟨h1, h2⟩
theorem wu64 {n : Int} (h1 : 0 ≤ n) (h2 : n ≤ 18446744073709551615) : IntKind.wrap .u64 n = n := IntWalk.u64_in n ⟨h1, h2⟩
theorem ble_t {a b : Nat} (h : a ≤ b) : Nat.ble a b = true := by rw [Nat.ble_eq]; exact h
theorem ok64 {n : Int} (h : okD (.int .i64) n) : -9223372036854775808 ≤ n ∧ n ≤ 9223372036854775807 := by
  have := okD_int.1 h
  simpa [Lit.wf, IntKind.min, IntKind.max, IntKind.bits, IntKind.signed, i_] using this
theorem not_t {p : Prop} [Decidable p] (h : ¬p) : (!decide p) = true := by simp [h]
theorem not_f {p : Prop} [Decidable p] (h : p) : (!decide p) = false := by simp [h]
theorem cond_congr {b c : Bool} (h : b = c) (x y : Option Bool) : cond_ b x y = cond_ c x y := by rw [h]
attribute [local congr] cond_congr
theorem dt {p : Prop} [Decidable p] (h : p) : decide p = true := decide_eq_true h
theorem df {p : Prop} [Decidable p] (h : ¬p) : decide p = false := decide_eq_false h
theorem ieqt {a b : Int} (h : a = b) : (a == b) = true := by simp [h]
theorem ieqf {a b : Int} (h : a ≠ b) : (a == b) = false := by simp [h]
theorem inet {a b : Int} (h : a ≠ b) : (a != b) = true := by simp [h]
theorem inef {a b : Int} (h : a = b) : (a != b) = false := by simp [h]
theorem ble_f {a b : Nat} (h : b < a) : Nat.ble a b = false := by
  cases hb : Nat.ble a b with
  | false => rfl
  | true => rw [Nat.ble_eq] at hb; omega
theorem rounds_ : ∃ R, ROUNDS = R ∧ 1000000000 ≤ R := ⟨ROUNDS, rfl, by unfold ROUNDS; omega⟩
theorem dTrue {i : Decidable True} : decide True = true := dt trivial
theorem dFalse {i : Decidable False} : decide False = false := df fun h => h
theorem if_iff {α : Type} {p q : Prop} [Decidable p] [Decidable q] (h : p ↔ q) (a b : α) : (if p then a else b) = (if q then a else b) := by
  by_cases hp : p
  · rw [if_pos hp, if_pos (h.1 hp)]
  · rw [if_neg hp, if_neg (fun g => hp (h.2 g))]
def u64 (n : Int) : Int := n % 18446744073709551616
theorem wu64_eq (n : Int) : IntKind.wrap .u64 n = u64 n := by
  simp [IntKind.wrap, IntKind.bits, IntKind.signed, u64]
/-- the last bytes of a number -/
def bts (u : Int) : Nat → List Int
  | 0 => []
  | m + 1 => (u / 256 ^ m) % 256 :: bts u m
theorem bts_len (u : Int) : ∀ m, (bts u m).length = m
  | 0 => rfl
  | m + 1 => by simp [bts, bts_len u m]
theorem w8_eq (n : Int) : IntKind.wrap .u8 n = n % 256 := by
  simp [IntKind.wrap, IntKind.bits, IntKind.signed]
theorem u64_lo (n : Int) : 0 ≤ u64 n ∧ u64 n < 18446744073709551616 := by unfold u64; omega
theorem innerL (u : Int) (ns : List Int) (K : Int → Int → Int → List Int → Option Bool) : ∀ (n : Nat) (i k x : Int), 0 ≤ k → k ≤ i → i ≤ 8 → 0 ≤ x → x < 18446744073709551616 → (i - k).toNat < n → ref02_Put_L0_L2 n u i x k ns K = K u i (x / 256 ^ (i - k).toNat) ns
  | 0, i, k, x, _, _, _, _, _, h => by omega
  | n + 1, i, k, x, h0, h1, h2, h3, h4, h5 => by
    rw [ref02_Put_L0_L2]
    unfold ref02_Put_L0_L2.body
    by_cases h : k < i
    · have e : IntKind.wrap .u64 (Int.tdiv x 256) = x / 256 := by
        rw [Int.tdiv_eq_ediv_of_nonneg h3, wu64 (by omega) (by omega)]
      rw [cond_pos (by simpa using h), e, w64 (by omega) (by omega), innerL u ns K n i (k + 1) (x / 256) (by omega) (by omega) h2 (by omega) (by omega) (by omega)]
      congr 1
      rw [show (i - k).toNat = (i - (k + 1)).toNat + 1 by omega, Int.pow_succ, Int.mul_comm, Int.ediv_ediv_of_nonneg (by omega)]
    · rw [cond_neg (by simpa using h)]
      rw [show (i - k).toNat = 0 by omega]
      simp
theorem outerL (u : Int) (hu : 0 ≤ u ∧ u < 18446744073709551616) (K : List Int → Option Bool) : ∀ (n : Nat) (m : Nat) (acc : List Int), m ≤ 8 → acc.length ≤ 4194304 - m → m < n → ref02_Put_L0 n u ((m : Int) - 1) acc K = K (acc ++ bts u m)
  | 0, m, acc, _, _, h => by omega
  | n + 1, 0, acc, _, _, h => by
    rw [ref02_Put_L0]
    unfold ref02_Put_L0.body
    rw [cond_neg (by simp)]
    simp [bts]
  | n + 1, m + 1, acc, h1, h2, h3 => by
    rw [ref02_Put_L0]
    unfold ref02_Put_L0.body
    rw [cond_pos (decide_eq_true (by omega)), innerL u acc _ ROUNDS _ 0 u (by omega) (by omega) (by omega) hu.1 hu.2 (by unfold ROUNDS; omega)]
    rw [show ((((m + 1 : Nat) : Int) - 1) - 0).toNat = m by omega]
    have hb : 0 ≤ u / 256 ^ m := Int.ediv_nonneg hu.1 (Int.pow_nonneg (by omega))
    have e : IntKind.wrap .u8 (Int.tmod (u / 256 ^ m) 256) = (u / 256 ^ m) % 256 := by
      rw [Int.tmod_eq_emod_of_nonneg hb, w8_eq]
      omega
    rw [e, ble_t (by simp; omega), cond_t, w64 (by omega) (by omega), show ((m + 1 : Nat) : Int) - 1 - 1 = (m : Int) - 1 by omega, outerL u hu K n m _ (by omega) (by simp; omega) (by omega)]
    rw [List.append_assoc]
    first | rfl | (simp [bts])
theorem rput_ {ns : List Int} (hl : ns.length ≤ 100000) (n w : Int) (k : List Int → Option Bool) : ref02_Put ns n w k = k (if w < 1 ∨ w > 8 then ns else ns ++ bts (u64 n) w.toNat) := by
  unfold ref02_Put ref02_Put.body
  rw [ble_t (by omega), cond_t]
  by_cases h1 : w < 1
  · rw [if_pos (.inl h1), cond_neg (not_f h1)]
  · by_cases h2 : w > 8
    · rw [if_pos (.inr h2), cond_pos (not_t h1), cond_pos (decide_eq_true h2)]
    · rw [if_neg (by omega), cond_pos (not_t h1), cond_neg (decide_eq_false h2), w64 (by omega) (by omega), wu64_eq]
      have := outerL (u64 n) (u64_lo n) (fun ns29 => k ns29) ROUNDS w.toNat ns (by omega) (by omega) (by unfold ROUNDS; omega)
      rw [show ((w.toNat : Nat) : Int) - 1 = w - 1 by omega] at this
      exact this
theorem fdiv_byte (n : Int) (m : Nat) (c : Int) (hc : c = 256 ^ m) (hm : m ≤ 7) : IntKind.wrap .u8 (Int.fdiv n c) = (u64 n / 256 ^ m) % 256 := by
  subst hc
  rw [w8_eq]
  have h0 : (0 : Int) ≤ 256 ^ m := Int.pow_nonneg (by omega)
  rw [Int.fdiv_eq_ediv_of_nonneg _ h0]
  unfold u64
  rcases m with _ | _ | _ | _ | _ | _ | _ | _ | m
  all_goals first | omega | (simp only [Nat.zero_add, Nat.reduceAdd, Int.reducePow] ; omega)
theorem putCells (ns : List Int) (n w : Int) (h1 : 1 ≤ w) (h2 : w ≤ 8) : List.take (Int.toNat (8 - (8 - w))) (List.drop (Int.toNat (8 - w)) ((IntKind.wrap .u8 (Int.fdiv n 72057594037927936)) :: (IntKind.wrap .u8 (Int.fdiv n 281474976710656)) :: (IntKind.wrap .u8 (Int.fdiv n 1099511627776)) :: (IntKind.wrap .u8 (Int.fdiv n 4294967296)) :: (IntKind.wrap .u8 (Int.fdiv n 16777216)) :: (IntKind.wrap .u8 (Int.fdiv n 65536)) :: (IntKind.wrap .u8 (Int.fdiv n 256)) :: (IntKind.wrap .u8 (Int.fdiv n 1)) :: [])) = bts (u64 n) w.toNat := by
  rw [fdiv_byte n 7 72057594037927936 rfl (by omega), fdiv_byte n 6 281474976710656 rfl (by omega), fdiv_byte n 5 1099511627776 rfl (by omega), fdiv_byte n 4 4294967296 rfl (by omega), fdiv_byte n 3 16777216 rfl (by omega), fdiv_byte n 2 65536 rfl (by omega), fdiv_byte n 1 256 rfl (by omega), fdiv_byte n 0 1 rfl (by omega)]
  have : w = 1 ∨ w = 2 ∨ w = 3 ∨ w = 4 ∨ w = 5 ∨ w = 6 ∨ w = 7 ∨ w = 8 := by omega
  rcases this with rfl | rfl | rfl | rfl | rfl | rfl | rfl | rfl <;> rfl
theorem octet_Put_ {ns : List Int} (hl : ns.length ≤ 100000) (n w : Int) (k : List Int → Option Bool) : octet_Put ns n w k = k (if w < 1 ∨ w > 8 then ns else ns ++ bts (u64 n) w.toNat) := by
  unfold octet_Put octet_Put.body
  rw [ble_t (by omega), cond_t]
  by_cases h1 : w < 1
  · rw [if_pos (.inl h1), cond_neg (not_f h1)]; rfl
  · by_cases h2 : w > 8
    · rw [if_pos (.inr h2), cond_pos (not_t h1), cond_pos (decide_eq_true h2)]; rfl
    · rw [if_neg (by omega), cond_pos (not_t h1), cond_neg (decide_eq_false h2), w64 (n := 8 - w) (by omega) (by omega), cond_pos (by simp; omega), putCells ns n w (by omega) (by omega), ble_t (by rw [bts_len]; simp; omega), cond_t]
      rfl
theorem F_a_ (u : Int) (ns : List Int) (K : Int → Int → Int → List Int → Option Bool) : ∀ (n : Nat) (i k x : Int), 0 ≤ k → k ≤ i → i ≤ 8 → 0 ≤ x → x < 18446744073709551616 → (i - k).toNat < n → ref02_Putv1_L0_L2 n u i x k ns K = K u i (x / 256 ^ (i - k).toNat) ns
  | 0, i, k, x, _, _, _, _, _, h => by omega
  | n + 1, i, k, x, h0, h1, h2, h3, h4, h5 => by
    rw [ref02_Putv1_L0_L2]
    unfold ref02_Putv1_L0_L2.body
    by_cases h : k < i
    · have e : IntKind.wrap .u64 (Int.tdiv x 256) = x / 256 := by
        rw [Int.tdiv_eq_ediv_of_nonneg h3, wu64 (by omega) (by omega)]
      rw [cond_pos (by simpa using h), e, w64 (by omega) (by omega), F_a_ u ns K n i (k + 1) (x / 256) (by omega) (by omega) h2 (by omega) (by omega) (by omega)]
      congr 1
      rw [show (i - k).toNat = (i - (k + 1)).toNat + 1 by omega, Int.pow_succ, Int.mul_comm, Int.ediv_ediv_of_nonneg (by omega)]
    · rw [cond_neg (by simpa using h)]
      rw [show (i - k).toNat = 0 by omega]
      simp
theorem F_b_ (u : Int) (hu : 0 ≤ u ∧ u < 18446744073709551616) (K : List Int → Option Bool) : ∀ (n : Nat) (m : Nat) (acc : List Int), m ≤ 8 → acc.length ≤ 4194304 - m → m < n → ref02_Putv1_L0 n u ((m : Int) - 1) acc K = K (acc ++ bts u m)
  | 0, m, acc, _, _, h => by omega
  | n + 1, 0, acc, _, _, h => by
    rw [ref02_Putv1_L0]
    unfold ref02_Putv1_L0.body
    rw [cond_neg (by simp)]
    simp [bts]
  | n + 1, m + 1, acc, h1, h2, h3 => by
    rw [ref02_Putv1_L0]
    unfold ref02_Putv1_L0.body
    rw [cond_pos (decide_eq_true (by omega)), F_a_ u acc _ ROUNDS _ 0 u (by omega) (by omega) (by omega) hu.1 hu.2 (by unfold ROUNDS; omega)]
    rw [show ((((m + 1 : Nat) : Int) - 1) - 0).toNat = m by omega]
    have hb : 0 ≤ u / 256 ^ m := Int.ediv_nonneg hu.1 (Int.pow_nonneg (by omega))
    have e : IntKind.wrap .u8 (Int.tmod (u / 256 ^ m) 256) = (u / 256 ^ m) % 256 := by
      rw [Int.tmod_eq_emod_of_nonneg hb, w8_eq]
      omega
    rw [e, ble_t (by simp; omega), cond_t, w64 (by omega) (by omega), show ((m + 1 : Nat) : Int) - 1 - 1 = (m : Int) - 1 by omega, F_b_ u hu K n m _ (by omega) (by simp; omega) (by omega)]
    rw [List.append_assoc]
    first | rfl | (simp [bts])
theorem ref02_Putv1_ {ns : List Int} (hl : ns.length ≤ 100000) (n w : Int) (k : List Int → Option Bool) : ref02_Putv1 ns n w k = k (if w < 1 ∨ w > 8 then ns else ns ++ bts (u64 n) w.toNat) := by
  unfold ref02_Putv1 ref02_Putv1.body
  rw [ble_t (by omega), cond_t]
  by_cases h1 : w < 1
  · rw [if_pos (.inl h1), cond_neg (not_f h1)]
  · by_cases h2 : w > 8
    · rw [if_pos (.inr h2), cond_pos (not_t h1), cond_pos (decide_eq_true h2)]
    · rw [if_neg (by omega), cond_pos (not_t h1), cond_neg (decide_eq_false h2), w64 (by omega) (by omega), wu64_eq]
      have := F_b_ (u64 n) (u64_lo n) (fun ns29 => k ns29) ROUNDS w.toNat ns (by omega) (by omega) (by unfold ROUNDS; omega)
      rw [show ((w.toNat : Nat) : Int) - 1 = w - 1 by omega] at this
      exact this
theorem seqt {a b : ByteArray} (h : a = b) : (a.toList == b.toList) = true := by rw [h]; exact beq_self_eq_true _
theorem seqf {a b : ByteArray} (h : a ≠ b) : (a.toList == b.toList) = false := by
  rw [ByteArray.toList_eq, ByteArray.toList_eq, beq_eq_false_iff_ne]
  intro he
  apply h
  cases a with | mk a =>
  cases b with | mk b =>
  exact congrArg ByteArray.mk (Array.toList_inj.1 he)
theorem bytes_inj : ∀ {a b : List Int}, (∀ x ∈ a, 0 ≤ x ∧ x < 256) → (∀ x ∈ b, 0 ≤ x ∧ x < 256) → a.map (fun n => UInt8.ofNat n.toNat) = b.map (fun n => UInt8.ofNat n.toNat) → a = b
  | [], [], _, _, _ => rfl
  | [], _ :: _, _, _, h => by simp at h
  | _ :: _, [], _, _, h => by simp at h
  | x :: a, y :: b, ha, hb, h => by
    simp only [List.map_cons, List.cons.injEq] at h
    obtain ⟨h1, h2⟩ := h
    have hx := ha x List.mem_cons_self
    have hy := hb y List.mem_cons_self
    have e : x = y := by
      have := congrArg UInt8.toNat h1
      simp only [UInt8.toNat_ofNat'] at this
      omega
    rw [e, bytes_inj (fun z hz => ha z (List.mem_cons_of_mem _ hz)) (fun z hz => hb z (List.mem_cons_of_mem _ hz)) h2]
theorem strOf_inj {a b : List Int} (ha : ∀ x ∈ a, 0 ≤ x ∧ x < 256) (hb : ∀ x ∈ b, 0 ≤ x ∧ x < 256) (h : strOf a = strOf b) : a = b := by
  refine bytes_inj ha hb ?_
  have h := congrArg (fun s : ByteArray => s.data.toList) h
  simpa [strOf] using h
def names : List ByteArray := [(⟨#[110, 111, 112]⟩ : ByteArray), (⟨#[115, 101, 116]⟩ : ByteArray), (⟨#[109, 111, 118, 101]⟩ : ByteArray), (⟨#[97, 100, 100]⟩ : ByteArray), (⟨#[115, 117, 98]⟩ : ByteArray), (⟨#[109, 117, 108]⟩ : ByteArray), (⟨#[100, 105, 118]⟩ : ByteArray), (⟨#[109, 111, 100]⟩ : ByteArray), (⟨#[108, 101, 115, 115]⟩ : ByteArray), (⟨#[115, 97, 109, 101]⟩ : ByteArray), (⟨#[106, 117, 109, 112]⟩ : ByteArray), (⟨#[122, 101, 114, 111]⟩ : ByteArray), (⟨#[105, 110]⟩ : ByteArray), (⟨#[111, 117, 116]⟩ : ByteArray), (⟨#[108, 111, 97, 100]⟩ : ByteArray), (⟨#[115, 116, 111, 114, 101]⟩ : ByteArray), (⟨#[102, 117, 110, 99]⟩ : ByteArray), (⟨#[112, 105, 99, 107]⟩ : ByteArray), (⟨#[99, 97, 108, 108]⟩ : ByteArray), (⟨#[118, 105, 97]⟩ : ByteArray), (⟨#[100, 101, 102, 101, 114]⟩ : ByteArray), (⟨#[112, 97, 110, 105, 99]⟩ : ByteArray), (⟨#[114, 101, 99, 111, 118, 101, 114]⟩ : ByteArray), (⟨#[114, 101, 116, 117, 114, 110]⟩ : ByteArray), (⟨#[99, 104, 101, 99, 107]⟩ : ByteArray), (⟨#[101, 110, 116, 101, 114]⟩ : ByteArray), (⟨#[98, 111, 116, 116, 111, 109]⟩ : ByteArray), (⟨#[100, 114, 105, 118, 101, 114]⟩ : ByteArray)]
def shapes : List ByteArray := [(⟨#[45, 45, 45, 45]⟩ : ByteArray), (⟨#[119, 45, 45, 110]⟩ : ByteArray), (⟨#[119, 114, 45, 45]⟩ : ByteArray), (⟨#[119, 114, 114, 45]⟩ : ByteArray), (⟨#[119, 114, 114, 45]⟩ : ByteArray), (⟨#[119, 114, 114, 45]⟩ : ByteArray), (⟨#[119, 114, 114, 45]⟩ : ByteArray), (⟨#[119, 114, 114, 45]⟩ : ByteArray), (⟨#[119, 114, 114, 45]⟩ : ByteArray), (⟨#[119, 114, 114, 45]⟩ : ByteArray), (⟨#[45, 45, 45, 116]⟩ : ByteArray), (⟨#[114, 45, 45, 116]⟩ : ByteArray), (⟨#[119, 45, 45, 45]⟩ : ByteArray), (⟨#[114, 45, 45, 45]⟩ : ByteArray), (⟨#[119, 114, 45, 45]⟩ : ByteArray), (⟨#[114, 114, 45, 45]⟩ : ByteArray), (⟨#[103, 45, 45, 45]⟩ : ByteArray), (⟨#[103, 114, 45, 45]⟩ : ByteArray), (⟨#[99, 45, 45, 45]⟩ : ByteArray), (⟨#[99, 102, 107, 45]⟩ : ByteArray), (⟨#[100, 45, 45, 45]⟩ : ByteArray), (⟨#[114, 45, 45, 45]⟩ : ByteArray), (⟨#[119, 119, 45, 45]⟩ : ByteArray), (⟨#[118, 45, 45, 45]⟩ : ByteArray)]
abbrev eB : ByteArray := ⟨#[]⟩
def nameS (n : Int) : ByteArray := if 1 ≤ n ∧ n ≤ 28 then names.getD (n - 1).toNat ⟨#[]⟩ else ⟨#[]⟩
def shapeS (n : Int) : ByteArray := if 1 ≤ n ∧ n ≤ 24 then shapes.getD (n - 1).toNat ⟨#[]⟩ else ⟨#[]⟩
theorem name_ (n : Int) (k : ByteArray → Option Bool) : op_Name n k = k (nameS n) := by
  unfold op_Name op_Name.body op_names op_names.body nameS
  dsimp only
  by_cases h1 : n < 1
  · rw [if_neg (by omega)]
    simp (disch := first | omega | (simp only [List.length_append, List.length_cons, List.length_nil, List.length_set, List.length_take, List.length_drop, List.length_replicate]; omega) | fail) only [cond_t, cond_f, dt, df, w64, wu64, w8, ble_t, ble_f, ieqt, ieqf, inet, inef, Bool.not_true, Bool.not_false, Bool.true_and, Bool.and_true, Bool.false_and, Bool.and_false, Bool.not_not, dTrue, dFalse, Int.toNat_natCast, List.length_append, List.length_cons, List.length_nil, meet_self]
  · by_cases h2 : n > 28
    · rw [if_neg (by omega)]
      simp (disch := first | omega | (simp only [List.length_append, List.length_cons, List.length_nil, List.length_set, List.length_take, List.length_drop, List.length_replicate]; omega) | fail) only [cond_t, cond_f, dt, df, w64, wu64, w8, ble_t, ble_f, ieqt, ieqf, inet, inef, Bool.not_true, Bool.not_false, Bool.true_and, Bool.and_true, Bool.false_and, Bool.and_false, Bool.not_not, dTrue, dFalse, Int.toNat_natCast, List.length_append, List.length_cons, List.length_nil, meet_self]
    · rw [if_pos (by omega)]
      simp (disch := first | omega | (simp only [List.length_append, List.length_cons, List.length_nil, List.length_set, List.length_take, List.length_drop, List.length_replicate]; omega) | fail) only [cond_t, cond_f, dt, df, w64, wu64, w8, ble_t, ble_f, ieqt, ieqf, inet, inef, Bool.not_true, Bool.not_false, Bool.true_and, Bool.and_true, Bool.false_and, Bool.and_false, Bool.not_not, dTrue, dFalse, Int.toNat_natCast, List.length_append, List.length_cons, List.length_nil, meet_self]
      rfl
theorem rname_ (n : Int) (k : ByteArray → Option Bool) : ref07_Name n k = k (nameS n) := by
  have hl : names.length = 28 := rfl
  unfold ref07_Name ref07_Name.body ref07_names ref07_names.body nameS
  show cond_ (!decide (n < 1)) (cond_ (decide (n > (names.length : Int))) (k ⟨#[]⟩) (cond_ (decide (0 ≤ IntKind.wrap .i64 (n - 1)) && decide (IntKind.wrap .i64 (n - 1) < (names.length : Int))) (k (names.getD (IntKind.wrap .i64 (n - 1)).toNat ⟨#[]⟩)) none)) (k ⟨#[]⟩) = _
  by_cases h1 : n < 1
  · rw [if_neg (by omega)]
    simp (disch := first | omega | (simp only [List.length_append, List.length_cons, List.length_nil, List.length_set, List.length_take, List.length_drop, List.length_replicate]; omega) | fail) only [cond_t, cond_f, dt, df, w64, wu64, w8, ble_t, ble_f, ieqt, ieqf, inet, inef, Bool.not_true, Bool.not_false, Bool.true_and, Bool.and_true, Bool.false_and, Bool.and_false, Bool.not_not, dTrue, dFalse, Int.toNat_natCast, List.length_append, List.length_cons, List.length_nil, meet_self]
  · by_cases h2 : n > 28
    · rw [if_neg (by omega)]
      simp (disch := first | omega | (simp only [List.length_append, List.length_cons, List.length_nil, List.length_set, List.length_take, List.length_drop, List.length_replicate]; omega) | fail) only [cond_t, cond_f, dt, df, w64, wu64, w8, ble_t, ble_f, ieqt, ieqf, inet, inef, Bool.not_true, Bool.not_false, Bool.true_and, Bool.and_true, Bool.false_and, Bool.and_false, Bool.not_not, dTrue, dFalse, Int.toNat_natCast, List.length_append, List.length_cons, List.length_nil, meet_self]
    · rw [if_pos (by omega)]
      simp (disch := first | omega | (simp only [List.length_append, List.length_cons, List.length_nil, List.length_set, List.length_take, List.length_drop, List.length_replicate]; omega) | fail) only [cond_t, cond_f, dt, df, w64, wu64, w8, ble_t, ble_f, ieqt, ieqf, inet, inef, Bool.not_true, Bool.not_false, Bool.true_and, Bool.and_true, Bool.false_and, Bool.and_false, Bool.not_not, dTrue, dFalse, Int.toNat_natCast, List.length_append, List.length_cons, List.length_nil, meet_self]
theorem shape_ (n : Int) (k : ByteArray → Option Bool) : op_Shape n k = k (shapeS n) := by
  unfold op_Shape op_Shape.body op_Own op_Own.body op_shapes op_shapes.body shapeS
  dsimp only
  by_cases h1 : n < 1
  · rw [if_neg (by omega)]
    simp (disch := first | omega | (simp only [List.length_append, List.length_cons, List.length_nil, List.length_set, List.length_take, List.length_drop, List.length_replicate]; omega) | fail) only [cond_t, cond_f, dt, df, w64, wu64, w8, ble_t, ble_f, ieqt, ieqf, inet, inef, Bool.not_true, Bool.not_false, Bool.true_and, Bool.and_true, Bool.false_and, Bool.and_false, Bool.not_not, dTrue, dFalse, Int.toNat_natCast, List.length_append, List.length_cons, List.length_nil, meet_self]
  · by_cases h2 : n > 24
    · rw [if_neg (by omega)]
      simp (disch := first | omega | (simp only [List.length_append, List.length_cons, List.length_nil, List.length_set, List.length_take, List.length_drop, List.length_replicate]; omega) | fail) only [cond_t, cond_f, dt, df, w64, wu64, w8, ble_t, ble_f, ieqt, ieqf, inet, inef, Bool.not_true, Bool.not_false, Bool.true_and, Bool.and_true, Bool.false_and, Bool.and_false, Bool.not_not, dTrue, dFalse, Int.toNat_natCast, List.length_append, List.length_cons, List.length_nil, meet_self]
    · rw [if_pos (by omega)]
      simp (disch := first | omega | (simp only [List.length_append, List.length_cons, List.length_nil, List.length_set, List.length_take, List.length_drop, List.length_replicate]; omega) | fail) only [cond_t, cond_f, dt, df, w64, wu64, w8, ble_t, ble_f, ieqt, ieqf, inet, inef, Bool.not_true, Bool.not_false, Bool.true_and, Bool.and_true, Bool.false_and, Bool.and_false, Bool.not_not, dTrue, dFalse, Int.toNat_natCast, List.length_append, List.length_cons, List.length_nil, meet_self]
      rfl
theorem rshape_ (n : Int) (k : ByteArray → Option Bool) : ref07_Shape n k = k (shapeS n) := by
  by_cases h1 : 1 ≤ n ∧ n ≤ 28
  · have : n = 1 ∨ n = 2 ∨ n = 3 ∨ n = 4 ∨ n = 5 ∨ n = 6 ∨ n = 7 ∨ n = 8 ∨ n = 9 ∨ n = 10 ∨ n = 11 ∨ n = 12 ∨ n = 13 ∨ n = 14 ∨ n = 15 ∨ n = 16 ∨ n = 17 ∨ n = 18 ∨ n = 19 ∨ n = 20 ∨ n = 21 ∨ n = 22 ∨ n = 23 ∨ n = 24 ∨ n = 25 ∨ n = 26 ∨ n = 27 ∨ n = 28 := by omega
    rcases this with rfl | rfl | rfl | rfl | rfl | rfl | rfl | rfl | rfl | rfl | rfl | rfl | rfl | rfl | rfl | rfl | rfl | rfl | rfl | rfl | rfl | rfl | rfl | rfl | rfl | rfl | rfl | rfl <;> (show _ = _ ; kernel_rfl)
  · have e : nameS n = ⟨#[]⟩ := by unfold nameS; rw [if_neg h1]
    have e2 : shapeS n = ⟨#[]⟩ := by unfold shapeS; rw [if_neg (by omega)]
    unfold ref07_Shape ref07_Shape.body
    rw [e2]
    by_cases h2 : n < 1
    · simp (disch := first | omega | (simp only [List.length_append, List.length_cons, List.length_nil, List.length_set, List.length_take, List.length_drop, List.length_replicate]; omega) | fail) only [cond_t, cond_f, dt, df, w64, wu64, w8, ble_t, ble_f, ieqt, ieqf, inet, inef, Bool.not_true, Bool.not_false, Bool.true_and, Bool.and_true, Bool.false_and, Bool.and_false, Bool.not_not, dTrue, dFalse, Int.toNat_natCast, List.length_append, List.length_cons, List.length_nil, meet_self, rname_, e]
      show _ = _
      kernel_rfl
    · simp (disch := first | omega | (simp only [List.length_append, List.length_cons, List.length_nil, List.length_set, List.length_take, List.length_drop, List.length_replicate]; omega) | fail) only [cond_t, cond_f, dt, df, w64, wu64, w8, ble_t, ble_f, ieqt, ieqf, inet, inef, Bool.not_true, Bool.not_false, Bool.true_and, Bool.and_true, Bool.false_and, Bool.and_false, Bool.not_not, dTrue, dFalse, Int.toNat_natCast, List.length_append, List.length_cons, List.length_nil, meet_self, rname_, e]
      show _ = _
      kernel_rfl
theorem shapeS_size (n : Int) : (shapeS n).size ≤ 4 := by
  unfold shapeS
  split
  · have : ∀ i, (shapes.getD i ⟨#[]⟩).size ≤ 4 := by
      intro i
      rcases Nat.lt_or_ge i 24 with h | h
      · have : i = 0 ∨ i = 1 ∨ i = 2 ∨ i = 3 ∨ i = 4 ∨ i = 5 ∨ i = 6 ∨ i = 7 ∨ i = 8 ∨ i = 9 ∨ i = 10 ∨ i = 11 ∨ i = 12 ∨ i = 13 ∨ i = 14 ∨ i = 15 ∨ i = 16 ∨ i = 17 ∨ i = 18 ∨ i = 19 ∨ i = 20 ∨ i = 21 ∨ i = 22 ∨ i = 23 := by omega
        rcases this with rfl | rfl | rfl | rfl | rfl | rfl | rfl | rfl | rfl | rfl | rfl | rfl | rfl | rfl | rfl | rfl | rfl | rfl | rfl | rfl | rfl | rfl | rfl | rfl <;> decide
      · rw [List.getD_eq_getElem?_getD, List.getElem?_eq_none (by exact h)]
        decide
    exact this _
  · decide
abbrev In := Int × Int × Int × Int × Int × Unit
def fields (x : In) : List Int := [x.2.1, x.2.2.1, x.2.2.2.1, x.2.2.2.2.1]
def operS (x : In) (i : Int) : Int := if i = 0 then x.2.1 else if i = 1 then x.2.2.1 else if i = 2 then x.2.2.2.1 else if i = 3 then x.2.2.2.2.1 else 0
theorem roperand_ (x : In) (i : Int) (k : Int → Option Bool) : ref08_Operand x i k = k (operS x i) := by
  unfold ref08_Operand ref08_Operand.body operS
  by_cases h0 : i = 0
  · subst h0; rfl
  · rw [if_neg h0, cond_neg (ieqf h0)]
    by_cases h1 : i = 1
    · subst h1; rfl
    · rw [if_neg h1, cond_neg (ieqf h1)]
      by_cases h2 : i = 2
      · subst h2; rfl
      · rw [if_neg h2, cond_neg (ieqf h2)]
        by_cases h3 : i = 3
        · subst h3; rfl
        · rw [if_neg h3, cond_neg (ieqf h3)]
theorem fields_oper (x : In) (i : Nat) (h : i < 4) : (fields x).getD i 0 = operS x (i : Int) := by
  have : i = 0 ∨ i = 1 ∨ i = 2 ∨ i = 3 := by omega
  rcases this with rfl | rfl | rfl | rfl <;> rfl
theorem operand_ (x : In) (i : Int) (k : Int → Option Bool) : instr_Operand x i k = k (operS x i) := by
  unfold instr_Operand instr_Operand.body instr_numbers instr_numbers.body
  dsimp only
  by_cases h0 : i < 0
  · have : operS x i = 0 := by unfold operS; rw [if_neg (by omega), if_neg (by omega), if_neg (by omega), if_neg (by omega)]
    rw [this]
    simp (disch := first | omega | (simp only [List.length_append, List.length_cons, List.length_nil, List.length_set, List.length_take, List.length_drop, List.length_replicate]; omega) | fail) only [cond_t, cond_f, dt, df, w64, wu64, w8, ble_t, ble_f, ieqt, ieqf, inet, inef, Bool.not_true, Bool.not_false, Bool.true_and, Bool.and_true, Bool.false_and, Bool.and_false, Bool.not_not, dTrue, dFalse, Int.toNat_natCast, List.length_append, List.length_cons, List.length_nil, meet_self]
  · by_cases h1 : i > 3
    · have : operS x i = 0 := by unfold operS; rw [if_neg (by omega), if_neg (by omega), if_neg (by omega), if_neg (by omega)]
      rw [this]
      simp (disch := first | omega | (simp only [List.length_append, List.length_cons, List.length_nil, List.length_set, List.length_take, List.length_drop, List.length_replicate]; omega) | fail) only [cond_t, cond_f, dt, df, w64, wu64, w8, ble_t, ble_f, ieqt, ieqf, inet, inef, Bool.not_true, Bool.not_false, Bool.true_and, Bool.and_true, Bool.false_and, Bool.and_false, Bool.not_not, dTrue, dFalse, Int.toNat_natCast, List.length_append, List.length_cons, List.length_nil, meet_self]
    · have e : (1 + i).toNat = i.toNat + 1 := by omega
      have e2 := fields_oper x i.toNat (by omega)
      rw [show ((i.toNat : Nat) : Int) = i by omega] at e2
      simp (disch := first | omega | (simp only [List.length_append, List.length_cons, List.length_nil, List.length_set, List.length_take, List.length_drop, List.length_replicate]; omega) | fail) only [cond_t, cond_f, dt, df, w64, wu64, w8, ble_t, ble_f, ieqt, ieqf, inet, inef, Bool.not_true, Bool.not_false, Bool.true_and, Bool.and_true, Bool.false_and, Bool.and_false, Bool.not_not, dTrue, dFalse, Int.toNat_natCast, List.length_append, List.length_cons, List.length_nil, meet_self, e, List.getD_cons_succ]
      rw [← e2]
      rfl
def withS (x : In) (i n : Int) : In := if i = 0 then (x.1, n, x.2.2.1, x.2.2.2.1, x.2.2.2.2.1, ()) else if i = 1 then (x.1, x.2.1, n, x.2.2.2.1, x.2.2.2.2.1, ()) else if i = 2 then (x.1, x.2.1, x.2.2.1, n, x.2.2.2.2.1, ()) else if i = 3 then (x.1, x.2.1, x.2.2.1, x.2.2.2.1, n, ()) else x
theorem rwith_ (x : In) (i n : Int) (k : In → Option Bool) : ref08_With x i n k = k (withS x i n) := by
  unfold ref08_With ref08_With.body withS
  by_cases h0 : i = 0
  · subst h0; rfl
  · rw [if_neg h0, cond_neg (ieqf h0)]
    by_cases h1 : i = 1
    · subst h1; rfl
    · rw [if_neg h1, cond_neg (ieqf h1)]
      by_cases h2 : i = 2
      · subst h2; rfl
      · rw [if_neg h2, cond_neg (ieqf h2)]
        by_cases h3 : i = 3
        · subst h3; rfl
        · rw [if_neg h3, cond_neg (ieqf h3)]
theorem with_ (x : In) (i n : Int) (k : In → Option Bool) : instr_With x i n k = k (withS x i n) := by
  unfold instr_With instr_With.body withS
  by_cases h3 : i = 3
  · subst h3; rfl
  · by_cases h0 : i = 0
    · subst h0; rfl
    · by_cases h1 : i = 1
      · subst h1; rfl
      · by_cases h2 : i = 2
        · subst h2; rfl
        · rw [if_neg h0, if_neg h1, if_neg h2, if_neg h3]
          by_cases h4 : i ≥ 0
          · simp (disch := first | omega | (simp only [List.length_append, List.length_cons, List.length_nil, List.length_set, List.length_take, List.length_drop, List.length_replicate]; omega) | fail) only [cond_t, cond_f, dt, df, w64, wu64, w8, ble_t, ble_f, ieqt, ieqf, inet, inef, Bool.not_true, Bool.not_false, Bool.true_and, Bool.and_true, Bool.false_and, Bool.and_false, Bool.not_not, dTrue, dFalse, Int.toNat_natCast, List.length_append, List.length_cons, List.length_nil, meet_self]
          · simp (disch := first | omega | (simp only [List.length_append, List.length_cons, List.length_nil, List.length_set, List.length_take, List.length_drop, List.length_replicate]; omega) | fail) only [cond_t, cond_f, dt, df, w64, wu64, w8, ble_t, ble_f, ieqt, ieqf, inet, inef, Bool.not_true, Bool.not_false, Bool.true_and, Bool.and_true, Bool.false_and, Bool.and_false, Bool.not_not, dTrue, dFalse, Int.toNat_natCast, List.length_append, List.length_cons, List.length_nil, meet_self]
theorem ex_step {P : Nat → Prop} {i m : Nat} (h : i < m) : (∃ j, i ≤ j ∧ j < m ∧ P j) ↔ P i ∨ ∃ j, i + 1 ≤ j ∧ j < m ∧ P j := by
  constructor
  · rintro ⟨j, h1, h2, h3⟩
    by_cases e : i = j
    · subst e; exact .inl h3
    · exact .inr ⟨j, by omega, h2, h3⟩
  · rintro (h1 | ⟨j, h1, h2, h3⟩)
    · exact ⟨i, Nat.le_refl _, h, h1⟩
    · exact ⟨j, by omega, h2, h3⟩
theorem ex_none {P : Nat → Prop} {i m : Nat} (h : ¬ i < m) : ¬ ∃ j, i ≤ j ∧ j < m ∧ P j := by
  rintro ⟨j, h1, h2, _⟩
  omega
def outAt (x : In) (i : Nat) : Prop := operS x (i : Int) < 0 ∨ operS x (i : Int) > 255
def dashAt (s : ByteArray) (i : Nat) : Prop := ((UInt8.toNat (List.getD s.data.toList i 0) : Nat) : Int) = 45
open Classical in
noncomputable def checkI (x : In) : Int := if (nameS x.1).toList = [] then 8 else if ∃ j, 0 ≤ j ∧ j < 3 ∧ outAt x j then 9 else if x.2.2.2.2.1 < -2147483648 ∨ x.2.2.2.2.1 > 2147483647 then 9 else if ∃ j, 0 ≤ j ∧ j < (shapeS x.1).size ∧ (dashAt (shapeS x.1) j ∧ operS x (j : Int) ≠ 0) then 2 else 0
open Classical in
theorem rchkL (x : In) (k1 : Int → Option Bool) (k2 : In → Option Bool) : ∀ (n i : Nat), i ≤ 3 → 3 - i < n → ref08_Check_L0 n (i : Int) x k1 k2 = if ∃ j, i ≤ j ∧ j < 3 ∧ outAt x j then k1 9 else k2 x
  | 0, i, _, h => by omega
  | n + 1, i, h0, h1 => by
    rw [ref08_Check_L0]
    unfold ref08_Check_L0.body
    by_cases h : i < 3
    · rw [if_iff (ex_step h)]
      have ih := rchkL x k1 k2 n (i + 1) (by omega) (by omega)
      rw [cond_pos (dt (by omega)), roperand_, roperand_, w64 (n := (i : Int) + 1) (by omega) (by omega), show (i : Int) + 1 = ((i + 1 : Nat) : Int) by omega, ih]
      by_cases hb : outAt x i
      · rw [if_pos (Or.inl hb)]
        unfold outAt at hb
        by_cases g : operS x (i : Int) < 0
        · simp (disch := first | omega | (simp only [List.length_append, List.length_cons, List.length_nil, List.length_set, List.length_take, List.length_drop, List.length_replicate]; omega) | fail) only [cond_t, cond_f, dt, df, w64, wu64, w8, ble_t, ble_f, ieqt, ieqf, inet, inef, Bool.not_true, Bool.not_false, Bool.true_and, Bool.and_true, Bool.false_and, Bool.and_false, Bool.not_not, dTrue, dFalse, Int.toNat_natCast, List.length_append, List.length_cons, List.length_nil, meet_self]
        · simp (disch := first | omega | (simp only [List.length_append, List.length_cons, List.length_nil, List.length_set, List.length_take, List.length_drop, List.length_replicate]; omega) | fail) only [cond_t, cond_f, dt, df, w64, wu64, w8, ble_t, ble_f, ieqt, ieqf, inet, inef, Bool.not_true, Bool.not_false, Bool.true_and, Bool.and_true, Bool.false_and, Bool.and_false, Bool.not_not, dTrue, dFalse, Int.toNat_natCast, List.length_append, List.length_cons, List.length_nil, meet_self]
      · rw [if_iff (or_iff_right hb)]
        unfold outAt at hb
        simp (disch := first | omega | (simp only [List.length_append, List.length_cons, List.length_nil, List.length_set, List.length_take, List.length_drop, List.length_replicate]; omega) | fail) only [cond_t, cond_f, dt, df, w64, wu64, w8, ble_t, ble_f, ieqt, ieqf, inet, inef, Bool.not_true, Bool.not_false, Bool.true_and, Bool.and_true, Bool.false_and, Bool.and_false, Bool.not_not, dTrue, dFalse, Int.toNat_natCast, List.length_append, List.length_cons, List.length_nil, meet_self]
    · rw [if_neg (ex_none h)]
      simp (disch := first | omega | (simp only [List.length_append, List.length_cons, List.length_nil, List.length_set, List.length_take, List.length_drop, List.length_replicate]; omega) | fail) only [cond_t, cond_f, dt, df, w64, wu64, w8, ble_t, ble_f, ieqt, ieqf, inet, inef, Bool.not_true, Bool.not_false, Bool.true_and, Bool.and_true, Bool.false_and, Bool.and_false, Bool.not_not, dTrue, dFalse, Int.toNat_natCast, List.length_append, List.length_cons, List.length_nil, meet_self]
open Classical in
theorem chkL (x : In) (k1 : Int → Option Bool) (k2 : In → Int → Int → Int → Int → Int → Option Bool) : ∀ (n i : Nat), i ≤ 3 → 3 - i < n → instr_Check_L0 n 3 (i : Int) x x.1 x.2.1 x.2.2.1 x.2.2.2.1 x.2.2.2.2.1 k1 k2 = if ∃ j, i ≤ j ∧ j < 3 ∧ outAt x j then k1 9 else k2 x x.1 x.2.1 x.2.2.1 x.2.2.2.1 x.2.2.2.2.1
  | 0, i, _, h => by omega
  | n + 1, i, h0, h1 => by
    rw [instr_Check_L0]
    unfold instr_Check_L0.body
    by_cases h : i < 3
    · rw [if_iff (ex_step h)]
      have ih := chkL x k1 k2 n (i + 1) (by omega) (by omega)
      have e : List.getD (x.1 :: (x.2.1 :: (x.2.2.1 :: (x.2.2.2.1 :: (x.2.2.2.2.1 :: []))))) (1 + ((i : Int)).toNat) 0 = operS x (i : Int) := by
        rw [Int.toNat_natCast, Nat.add_comm, List.getD_cons_succ]
        exact fields_oper x i (by omega)
      rw [cond_pos (dt (by omega)), cond_pos (by simp; omega), e, w64 (n := (i : Int) + 1) (by omega) (by omega), show (i : Int) + 1 = ((i + 1 : Nat) : Int) by omega, ih]
      by_cases hb : outAt x i
      · rw [if_pos (Or.inl hb)]
        unfold outAt at hb
        by_cases g : operS x (i : Int) < 0
        · simp (disch := first | omega | (simp only [List.length_append, List.length_cons, List.length_nil, List.length_set, List.length_take, List.length_drop, List.length_replicate]; omega) | fail) only [cond_t, cond_f, dt, df, w64, wu64, w8, ble_t, ble_f, ieqt, ieqf, inet, inef, Bool.not_true, Bool.not_false, Bool.true_and, Bool.and_true, Bool.false_and, Bool.and_false, Bool.not_not, dTrue, dFalse, Int.toNat_natCast, List.length_append, List.length_cons, List.length_nil, meet_self]
        · simp (disch := first | omega | (simp only [List.length_append, List.length_cons, List.length_nil, List.length_set, List.length_take, List.length_drop, List.length_replicate]; omega) | fail) only [cond_t, cond_f, dt, df, w64, wu64, w8, ble_t, ble_f, ieqt, ieqf, inet, inef, Bool.not_true, Bool.not_false, Bool.true_and, Bool.and_true, Bool.false_and, Bool.and_false, Bool.not_not, dTrue, dFalse, Int.toNat_natCast, List.length_append, List.length_cons, List.length_nil, meet_self]
      · rw [if_iff (or_iff_right hb)]
        unfold outAt at hb
        simp (disch := first | omega | (simp only [List.length_append, List.length_cons, List.length_nil, List.length_set, List.length_take, List.length_drop, List.length_replicate]; omega) | fail) only [cond_t, cond_f, dt, df, w64, wu64, w8, ble_t, ble_f, ieqt, ieqf, inet, inef, Bool.not_true, Bool.not_false, Bool.true_and, Bool.and_true, Bool.false_and, Bool.and_false, Bool.not_not, dTrue, dFalse, Int.toNat_natCast, List.length_append, List.length_cons, List.length_nil, meet_self]
    · rw [if_neg (ex_none h)]
      simp (disch := first | omega | (simp only [List.length_append, List.length_cons, List.length_nil, List.length_set, List.length_take, List.length_drop, List.length_replicate]; omega) | fail) only [cond_t, cond_f, dt, df, w64, wu64, w8, ble_t, ble_f, ieqt, ieqf, inet, inef, Bool.not_true, Bool.not_false, Bool.true_and, Bool.and_true, Bool.false_and, Bool.and_false, Bool.not_not, dTrue, dFalse, Int.toNat_natCast, List.length_append, List.length_cons, List.length_nil, meet_self]
open Classical in
theorem rdashL (s : ByteArray) (hs : s.size ≤ 4) (x : In) (k1 : Int → Option Bool) (k2 : Option Bool) : ∀ (n i : Nat), i ≤ s.size → s.size - i < n → ref08_Check_L2 n s (i : Int) x k1 k2 = if ∃ j, i ≤ j ∧ j < s.size ∧ (dashAt s j ∧ operS x (j : Int) ≠ 0) then k1 2 else k2
  | 0, i, _, h => by omega
  | n + 1, i, h0, h1 => by
    rw [ref08_Check_L2]
    unfold ref08_Check_L2.body
    by_cases h : i < s.size
    · rw [if_iff (ex_step h)]
      have ih := rdashL s hs x k1 k2 n (i + 1) (by omega) (by omega)
      rw [cond_pos (dt (by omega)), cond_pos (by simp; omega), roperand_, w64 (n := (i : Int) + 1) (by omega) (by omega), show (i : Int) + 1 = ((i + 1 : Nat) : Int) by omega, ih, Int.toNat_natCast]
      by_cases hd : dashAt s i
      · by_cases ho : operS x (i : Int) ≠ 0
        · rw [if_pos (Or.inl ⟨hd, ho⟩)]
          unfold dashAt at hd
          simp (disch := first | omega | (simp only [List.length_append, List.length_cons, List.length_nil, List.length_set, List.length_take, List.length_drop, List.length_replicate]; omega) | fail) only [cond_t, cond_f, dt, df, w64, wu64, w8, ble_t, ble_f, ieqt, ieqf, inet, inef, Bool.not_true, Bool.not_false, Bool.true_and, Bool.and_true, Bool.false_and, Bool.and_false, Bool.not_not, dTrue, dFalse, Int.toNat_natCast, List.length_append, List.length_cons, List.length_nil, meet_self]
        · rw [if_iff (or_iff_right (fun g => ho g.2))]
          unfold dashAt at hd
          simp (disch := first | omega | (simp only [List.length_append, List.length_cons, List.length_nil, List.length_set, List.length_take, List.length_drop, List.length_replicate]; omega) | fail) only [cond_t, cond_f, dt, df, w64, wu64, w8, ble_t, ble_f, ieqt, ieqf, inet, inef, Bool.not_true, Bool.not_false, Bool.true_and, Bool.and_true, Bool.false_and, Bool.and_false, Bool.not_not, dTrue, dFalse, Int.toNat_natCast, List.length_append, List.length_cons, List.length_nil, meet_self]
      · rw [if_iff (or_iff_right (fun g => hd g.1))]
        unfold dashAt at hd
        simp (disch := first | omega | (simp only [List.length_append, List.length_cons, List.length_nil, List.length_set, List.length_take, List.length_drop, List.length_replicate]; omega) | fail) only [cond_t, cond_f, dt, df, w64, wu64, w8, ble_t, ble_f, ieqt, ieqf, inet, inef, Bool.not_true, Bool.not_false, Bool.true_and, Bool.and_true, Bool.false_and, Bool.and_false, Bool.not_not, dTrue, dFalse, Int.toNat_natCast, List.length_append, List.length_cons, List.length_nil, meet_self]
    · rw [if_neg (ex_none h)]
      simp (disch := first | omega | (simp only [List.length_append, List.length_cons, List.length_nil, List.length_set, List.length_take, List.length_drop, List.length_replicate]; omega) | fail) only [cond_t, cond_f, dt, df, w64, wu64, w8, ble_t, ble_f, ieqt, ieqf, inet, inef, Bool.not_true, Bool.not_false, Bool.true_and, Bool.and_true, Bool.false_and, Bool.and_false, Bool.not_not, dTrue, dFalse, Int.toNat_natCast, List.length_append, List.length_cons, List.length_nil, meet_self]
open Classical in
theorem dashL (s : ByteArray) (hs : s.size ≤ 4) (x : In) (k1 : Int → Option Bool) (k2 : Option Bool) : ∀ (n i : Nat), i ≤ s.size → s.size - i < n → instr_Check_L2 n s (s.size : Int) (i : Int) x.1 x.2.1 x.2.2.1 x.2.2.2.1 x.2.2.2.2.1 k1 k2 = if ∃ j, i ≤ j ∧ j < s.size ∧ (dashAt s j ∧ operS x (j : Int) ≠ 0) then k1 2 else k2
  | 0, i, _, h => by omega
  | n + 1, i, h0, h1 => by
    rw [instr_Check_L2]
    unfold instr_Check_L2.body
    by_cases h : i < s.size
    · rw [if_iff (ex_step h)]
      have ih := dashL s hs x k1 k2 n (i + 1) (by omega) (by omega)
      have e : List.getD (x.1 :: (x.2.1 :: (x.2.2.1 :: (x.2.2.2.1 :: (x.2.2.2.2.1 :: []))))) (1 + (i : Int)).toNat 0 = operS x (i : Int) := by
        rw [show (1 + (i : Int)).toNat = i + 1 by omega, List.getD_cons_succ]
        exact fields_oper x i (by omega)
      rw [cond_pos (dt (by omega)), cond_pos (by simp; omega), w64 (n := 1 + (i : Int)) (by omega) (by omega), e, w64 (n := (i : Int) + 1) (by omega) (by omega), show (i : Int) + 1 = ((i + 1 : Nat) : Int) by omega, ih, Int.toNat_natCast]
      by_cases hd : dashAt s i
      · by_cases ho : operS x (i : Int) ≠ 0
        · rw [if_pos (Or.inl ⟨hd, ho⟩)]
          unfold dashAt at hd
          simp (disch := first | omega | (simp only [List.length_append, List.length_cons, List.length_nil, List.length_set, List.length_take, List.length_drop, List.length_replicate]; omega) | fail) only [cond_t, cond_f, dt, df, w64, wu64, w8, ble_t, ble_f, ieqt, ieqf, inet, inef, Bool.not_true, Bool.not_false, Bool.true_and, Bool.and_true, Bool.false_and, Bool.and_false, Bool.not_not, dTrue, dFalse, Int.toNat_natCast, List.length_append, List.length_cons, List.length_nil, meet_self]
        · rw [if_iff (or_iff_right (fun g => ho g.2))]
          unfold dashAt at hd
          simp (disch := first | omega | (simp only [List.length_append, List.length_cons, List.length_nil, List.length_set, List.length_take, List.length_drop, List.length_replicate]; omega) | fail) only [cond_t, cond_f, dt, df, w64, wu64, w8, ble_t, ble_f, ieqt, ieqf, inet, inef, Bool.not_true, Bool.not_false, Bool.true_and, Bool.and_true, Bool.false_and, Bool.and_false, Bool.not_not, dTrue, dFalse, Int.toNat_natCast, List.length_append, List.length_cons, List.length_nil, meet_self]
      · rw [if_iff (or_iff_right (fun g => hd g.1))]
        unfold dashAt at hd
        simp (disch := first | omega | (simp only [List.length_append, List.length_cons, List.length_nil, List.length_set, List.length_take, List.length_drop, List.length_replicate]; omega) | fail) only [cond_t, cond_f, dt, df, w64, wu64, w8, ble_t, ble_f, ieqt, ieqf, inet, inef, Bool.not_true, Bool.not_false, Bool.true_and, Bool.and_true, Bool.false_and, Bool.and_false, Bool.not_not, dTrue, dFalse, Int.toNat_natCast, List.length_append, List.length_cons, List.length_nil, meet_self]
    · rw [if_neg (ex_none h)]
      simp (disch := first | omega | (simp only [List.length_append, List.length_cons, List.length_nil, List.length_set, List.length_take, List.length_drop, List.length_replicate]; omega) | fail) only [cond_t, cond_f, dt, df, w64, wu64, w8, ble_t, ble_f, ieqt, ieqf, inet, inef, Bool.not_true, Bool.not_false, Bool.true_and, Bool.and_true, Bool.false_and, Bool.and_false, Bool.not_not, dTrue, dFalse, Int.toNat_natCast, List.length_append, List.length_cons, List.length_nil, meet_self]
theorem noName (s : ByteArray) : (ByteArray.toList s == ByteArray.toList (⟨#[]⟩ : ByteArray)) = decide (s.toList = []) := by
  have : ByteArray.toList (⟨#[]⟩ : ByteArray) = [] := by kernel_rfl
  rw [this]
  by_cases h : s.toList = []
  · rw [h]; rfl
  · rw [df h, beq_eq_false_iff_ne]; exact h
theorem check_ (x : In) (k : Int → Option Bool) : instr_Check x k = k (checkI x) := by
  unfold instr_Check instr_Check.body instr_numbers instr_numbers.body checkI
  have hsz := shapeS_size x.1
  rw [name_]
  dsimp only
  rw [noName]
  by_cases h1 : (nameS x.1).toList = []
  · rw [if_pos h1, dt h1, cond_t]
  · rw [if_neg h1, df h1, cond_f]
    refine (chkL x _ _ ROUNDS 0 (by omega) (by unfold ROUNDS; omega)).trans ?_
    split
    · rfl
    · rw [shape_]
      by_cases h3 : x.2.2.2.2.1 < -2147483648
      · rw [if_pos (.inl h3)]
        simp (disch := first | omega | (simp only [List.length_append, List.length_cons, List.length_nil, List.length_set, List.length_take, List.length_drop, List.length_replicate]; omega) | fail) only [cond_t, cond_f, dt, df, w64, wu64, w8, ble_t, ble_f, ieqt, ieqf, inet, inef, Bool.not_true, Bool.not_false, Bool.true_and, Bool.and_true, Bool.false_and, Bool.and_false, Bool.not_not, dTrue, dFalse, Int.toNat_natCast, List.length_append, List.length_cons, List.length_nil, meet_self]
      · by_cases h4 : x.2.2.2.2.1 > 2147483647
        · rw [if_pos (.inr h4)]
          simp (disch := first | omega | (simp only [List.length_append, List.length_cons, List.length_nil, List.length_set, List.length_take, List.length_drop, List.length_replicate]; omega) | fail) only [cond_t, cond_f, dt, df, w64, wu64, w8, ble_t, ble_f, ieqt, ieqf, inet, inef, Bool.not_true, Bool.not_false, Bool.true_and, Bool.and_true, Bool.false_and, Bool.and_false, Bool.not_not, dTrue, dFalse, Int.toNat_natCast, List.length_append, List.length_cons, List.length_nil, meet_self]
        · rw [if_neg (by omega), cond_pos (not_t h3), cond_neg (df h4)]
          refine (dashL _ hsz x _ _ ROUNDS 0 (by omega) (by unfold ROUNDS; omega)).trans ?_
          split <;> rfl
theorem rcheck_ (x : In) (k : Int → Option Bool) : ref08_Check x k = k (checkI x) := by
  unfold ref08_Check ref08_Check.body checkI
  have hsz := shapeS_size x.1
  rw [rname_]
  rw [noName]
  by_cases h1 : (nameS x.1).toList = []
  · rw [if_pos h1, dt h1, cond_t]
  · rw [if_neg h1, df h1, cond_f]
    refine (rchkL x _ _ ROUNDS 0 (by omega) (by unfold ROUNDS; omega)).trans ?_
    split
    · rfl
    · rw [rshape_]
      by_cases h3 : x.2.2.2.2.1 < -2147483648
      · rw [if_pos (.inl h3)]
        simp (disch := first | omega | (simp only [List.length_append, List.length_cons, List.length_nil, List.length_set, List.length_take, List.length_drop, List.length_replicate]; omega) | fail) only [cond_t, cond_f, dt, df, w64, wu64, w8, ble_t, ble_f, ieqt, ieqf, inet, inef, Bool.not_true, Bool.not_false, Bool.true_and, Bool.and_true, Bool.false_and, Bool.and_false, Bool.not_not, dTrue, dFalse, Int.toNat_natCast, List.length_append, List.length_cons, List.length_nil, meet_self]
      · by_cases h4 : x.2.2.2.2.1 > 2147483647
        · rw [if_pos (.inr h4)]
          simp (disch := first | omega | (simp only [List.length_append, List.length_cons, List.length_nil, List.length_set, List.length_take, List.length_drop, List.length_replicate]; omega) | fail) only [cond_t, cond_f, dt, df, w64, wu64, w8, ble_t, ble_f, ieqt, ieqf, inet, inef, Bool.not_true, Bool.not_false, Bool.true_and, Bool.and_true, Bool.false_and, Bool.and_false, Bool.not_not, dTrue, dFalse, Int.toNat_natCast, List.length_append, List.length_cons, List.length_nil, meet_self]
        · rw [if_neg (by omega), cond_pos (not_t h3), cond_neg (df h4)]
          refine (rdashL _ hsz x _ _ ROUNDS 0 (by omega) (by unfold ROUNDS; omega)).trans ?_
          split <;> rfl
def encI (x : In) : List Int := bts (u64 x.1) 1 ++ bts (u64 x.2.1) 1 ++ bts (u64 x.2.2.1) 1 ++ bts (u64 x.2.2.2.1) 1 ++ bts (u64 x.2.2.2.2.1) 4
theorem encI_len (x : In) : (encI x).length = 8 := by unfold encI; simp only [List.length_append, bts_len]
theorem instr_Put_L0_ (x : In) (ns : List Int) (hl : ns.length ≤ 90000) (k1 k2 : List Int → Option Bool) : instr_Put_L0 ROUNDS ns (x.1, x.2.1, x.2.2.1, x.2.2.2.1, x.2.2.2.2.1, ()) 0 k1 k2 = k1 (ns ++ bts (u64 x.1) 1 ++ bts (u64 x.2.1) 1 ++ bts (u64 x.2.2.1) 1 ++ bts (u64 x.2.2.2.1) 1 ++ bts (u64 x.2.2.2.2.1) 4) := by
  obtain ⟨R, hR⟩ : ∃ R, ROUNDS = R + 1 + 1 + 1 + 1 + 1 := ⟨1180591620717411303419, rfl⟩
  rw [hR]
  have o1 : ∀ {ns : List Int}, ns.length ≤ 100000 → ∀ (n : Int) (k : List Int → Option Bool), octet_Put ns n 1 k = k (ns ++ bts (u64 n) 1) := fun hl n k => octet_Put_ hl n 1 k
  have o4 : ∀ {ns : List Int}, ns.length ≤ 100000 → ∀ (n : Int) (k : List Int → Option Bool), octet_Put ns n 4 k = k (ns ++ bts (u64 n) 4) := fun hl n k => octet_Put_ hl n 4 k
  have g0 : (0 : Int).toNat = 0 := rfl
  have g1 : (1 : Int).toNat = 1 := rfl
  have g2 : (2 : Int).toNat = 2 := rfl
  have g3 : (3 : Int).toNat = 3 := rfl
  have g4 : (4 : Int).toNat = 4 := rfl
  have b1 : ∀ u, (bts u 1).length = 1 := fun u => bts_len u 1
  rw [instr_Put_L0]
  unfold instr_Put_L0.body
  simp (disch := first | omega | (simp only [List.length_append, List.length_cons, List.length_nil, List.length_set, List.length_take, List.length_drop, List.length_replicate]; omega) | fail) only [cond_t, cond_f, dt, df, w64, wu64, w8, ble_t, ble_f, ieqt, ieqf, inet, inef, Bool.not_true, Bool.not_false, Bool.true_and, Bool.and_true, Bool.false_and, Bool.and_false, Bool.not_not, dTrue, dFalse, Int.toNat_natCast, List.length_append, List.length_cons, List.length_nil, meet_self, g0, List.getD_cons_zero]
  rw [o1 (by omega), show (0 : Int) + 1 = 1 from rfl, instr_Put_L0]
  unfold instr_Put_L0.body
  simp (disch := first | omega | (simp only [List.length_append, List.length_cons, List.length_nil, List.length_set, List.length_take, List.length_drop, List.length_replicate]; omega) | fail) only [cond_t, cond_f, dt, df, w64, wu64, w8, ble_t, ble_f, ieqt, ieqf, inet, inef, Bool.not_true, Bool.not_false, Bool.true_and, Bool.and_true, Bool.false_and, Bool.and_false, Bool.not_not, dTrue, dFalse, Int.toNat_natCast, List.length_append, List.length_cons, List.length_nil, meet_self, g1, List.getD_cons_succ, List.getD_cons_zero]
  rw [o1 (by simp only [List.length_append, b1]; omega), show (1 : Int) + 1 = 2 from rfl, instr_Put_L0]
  unfold instr_Put_L0.body
  simp (disch := first | omega | (simp only [List.length_append, List.length_cons, List.length_nil, List.length_set, List.length_take, List.length_drop, List.length_replicate]; omega) | fail) only [cond_t, cond_f, dt, df, w64, wu64, w8, ble_t, ble_f, ieqt, ieqf, inet, inef, Bool.not_true, Bool.not_false, Bool.true_and, Bool.and_true, Bool.false_and, Bool.and_false, Bool.not_not, dTrue, dFalse, Int.toNat_natCast, List.length_append, List.length_cons, List.length_nil, meet_self, g2, List.getD_cons_succ, List.getD_cons_zero]
  rw [o1 (by simp only [List.length_append, b1]; omega), show (2 : Int) + 1 = 3 from rfl, instr_Put_L0]
  unfold instr_Put_L0.body
  simp (disch := first | omega | (simp only [List.length_append, List.length_cons, List.length_nil, List.length_set, List.length_take, List.length_drop, List.length_replicate]; omega) | fail) only [cond_t, cond_f, dt, df, w64, wu64, w8, ble_t, ble_f, ieqt, ieqf, inet, inef, Bool.not_true, Bool.not_false, Bool.true_and, Bool.and_true, Bool.false_and, Bool.and_false, Bool.not_not, dTrue, dFalse, Int.toNat_natCast, List.length_append, List.length_cons, List.length_nil, meet_self, g3, List.getD_cons_succ, List.getD_cons_zero]
  rw [o1 (by simp only [List.length_append, b1]; omega), show (3 : Int) + 1 = 4 from rfl, instr_Put_L0]
  unfold instr_Put_L0.body
  simp (disch := first | omega | (simp only [List.length_append, List.length_cons, List.length_nil, List.length_set, List.length_take, List.length_drop, List.length_replicate]; omega) | fail) only [cond_t, cond_f, dt, df, w64, wu64, w8, ble_t, ble_f, ieqt, ieqf, inet, inef, Bool.not_true, Bool.not_false, Bool.true_and, Bool.and_true, Bool.false_and, Bool.and_false, Bool.not_not, dTrue, dFalse, Int.toNat_natCast, List.length_append, List.length_cons, List.length_nil, meet_self, g4, List.getD_cons_succ, List.getD_cons_zero]
  rw [o4 (by simp only [List.length_append, b1]; omega)]
theorem instr_Putv1_L0_ (x : In) (ns : List Int) (hl : ns.length ≤ 90000) (k1 k2 : List Int → Option Bool) : instr_Putv1_L0 ROUNDS ns (x.1, x.2.1, x.2.2.1, x.2.2.2.1, x.2.2.2.2.1, ()) 0 k1 k2 = k1 (ns ++ bts (u64 x.1) 1 ++ bts (u64 x.2.1) 1 ++ bts (u64 x.2.2.1) 1 ++ bts (u64 x.2.2.2.1) 1 ++ bts (u64 x.2.2.2.2.1) 4) := by
  obtain ⟨R, hR⟩ : ∃ R, ROUNDS = R + 1 + 1 + 1 + 1 + 1 := ⟨1180591620717411303419, rfl⟩
  rw [hR]
  have o1 : ∀ {ns : List Int}, ns.length ≤ 100000 → ∀ (n : Int) (k : List Int → Option Bool), octet_Put ns n 1 k = k (ns ++ bts (u64 n) 1) := fun hl n k => octet_Put_ hl n 1 k
  have o4 : ∀ {ns : List Int}, ns.length ≤ 100000 → ∀ (n : Int) (k : List Int → Option Bool), octet_Put ns n 4 k = k (ns ++ bts (u64 n) 4) := fun hl n k => octet_Put_ hl n 4 k
  have g0 : (0 : Int).toNat = 0 := rfl
  have g1 : (1 : Int).toNat = 1 := rfl
  have g2 : (2 : Int).toNat = 2 := rfl
  have g3 : (3 : Int).toNat = 3 := rfl
  have g4 : (4 : Int).toNat = 4 := rfl
  have b1 : ∀ u, (bts u 1).length = 1 := fun u => bts_len u 1
  rw [instr_Putv1_L0]
  unfold instr_Putv1_L0.body
  simp (disch := first | omega | (simp only [List.length_append, List.length_cons, List.length_nil, List.length_set, List.length_take, List.length_drop, List.length_replicate]; omega) | fail) only [cond_t, cond_f, dt, df, w64, wu64, w8, ble_t, ble_f, ieqt, ieqf, inet, inef, Bool.not_true, Bool.not_false, Bool.true_and, Bool.and_true, Bool.false_and, Bool.and_false, Bool.not_not, dTrue, dFalse, Int.toNat_natCast, List.length_append, List.length_cons, List.length_nil, meet_self, g0, List.getD_cons_zero]
  rw [o1 (by omega), show (0 : Int) + 1 = 1 from rfl, instr_Putv1_L0]
  unfold instr_Putv1_L0.body
  simp (disch := first | omega | (simp only [List.length_append, List.length_cons, List.length_nil, List.length_set, List.length_take, List.length_drop, List.length_replicate]; omega) | fail) only [cond_t, cond_f, dt, df, w64, wu64, w8, ble_t, ble_f, ieqt, ieqf, inet, inef, Bool.not_true, Bool.not_false, Bool.true_and, Bool.and_true, Bool.false_and, Bool.and_false, Bool.not_not, dTrue, dFalse, Int.toNat_natCast, List.length_append, List.length_cons, List.length_nil, meet_self, g1, List.getD_cons_succ, List.getD_cons_zero]
  rw [o1 (by simp only [List.length_append, b1]; omega), show (1 : Int) + 1 = 2 from rfl, instr_Putv1_L0]
  unfold instr_Putv1_L0.body
  simp (disch := first | omega | (simp only [List.length_append, List.length_cons, List.length_nil, List.length_set, List.length_take, List.length_drop, List.length_replicate]; omega) | fail) only [cond_t, cond_f, dt, df, w64, wu64, w8, ble_t, ble_f, ieqt, ieqf, inet, inef, Bool.not_true, Bool.not_false, Bool.true_and, Bool.and_true, Bool.false_and, Bool.and_false, Bool.not_not, dTrue, dFalse, Int.toNat_natCast, List.length_append, List.length_cons, List.length_nil, meet_self, g2, List.getD_cons_succ, List.getD_cons_zero]
  rw [o1 (by simp only [List.length_append, b1]; omega), show (2 : Int) + 1 = 3 from rfl, instr_Putv1_L0]
  unfold instr_Putv1_L0.body
  simp (disch := first | omega | (simp only [List.length_append, List.length_cons, List.length_nil, List.length_set, List.length_take, List.length_drop, List.length_replicate]; omega) | fail) only [cond_t, cond_f, dt, df, w64, wu64, w8, ble_t, ble_f, ieqt, ieqf, inet, inef, Bool.not_true, Bool.not_false, Bool.true_and, Bool.and_true, Bool.false_and, Bool.and_false, Bool.not_not, dTrue, dFalse, Int.toNat_natCast, List.length_append, List.length_cons, List.length_nil, meet_self, g3, List.getD_cons_succ, List.getD_cons_zero]
  rw [o1 (by simp only [List.length_append, b1]; omega), show (3 : Int) + 1 = 4 from rfl, instr_Putv1_L0]
  unfold instr_Putv1_L0.body
  simp (disch := first | omega | (simp only [List.length_append, List.length_cons, List.length_nil, List.length_set, List.length_take, List.length_drop, List.length_replicate]; omega) | fail) only [cond_t, cond_f, dt, df, w64, wu64, w8, ble_t, ble_f, ieqt, ieqf, inet, inef, Bool.not_true, Bool.not_false, Bool.true_and, Bool.and_true, Bool.false_and, Bool.and_false, Bool.not_not, dTrue, dFalse, Int.toNat_natCast, List.length_append, List.length_cons, List.length_nil, meet_self, g4, List.getD_cons_succ, List.getD_cons_zero]
  rw [o4 (by simp only [List.length_append, b1]; omega)]
theorem iput_ (x : In) (ns : List Int) (hl : ns.length ≤ 1000) (k : List Int → Option Bool) : instr_Put ns x k = k (ns ++ encI x) := by
  unfold instr_Put instr_Put.body instr_numbers instr_numbers.body
  dsimp only
  rw [instr_Put_L0_ x ns (by omega)]
  unfold encI
  simp only [List.append_assoc]
theorem iput1_ (x : In) (k : List Int → Option Bool) : instr_Putv1 x k = k (encI x) := by
  unfold instr_Putv1 instr_Putv1.body instr_numbers instr_numbers.body
  dsimp only
  rw [instr_Putv1_L0_ x [] (by simp)]
  unfold encI
  simp only [List.append_assoc, List.nil_append]
theorem riput_ (x : In) (ns : List Int) (hl : ns.length ≤ 1000) (k : List Int → Option Bool) : ref08_Put ns x k = k (ns ++ encI x) := by
  unfold ref08_Put ref08_Put.body
  have b1 : ∀ u, (bts u 1).length = 1 := fun u => bts_len u 1
  rw [rput_ (by omega), if_neg (by omega), ref02_Putv1_ (by simp only [List.length_append, b1, show (1 : Int).toNat = 1 from rfl]; omega), if_neg (by omega), ref02_Putv1_ (by simp only [List.length_append, b1, show (1 : Int).toNat = 1 from rfl]; omega), if_neg (by omega), ref02_Putv1_ (by simp only [List.length_append, b1, show (1 : Int).toNat = 1 from rfl]; omega), if_neg (by omega), ref02_Putv1_ (by simp only [List.length_append, b1, show (1 : Int).toNat = 1 from rfl]; omega), if_neg (by omega)]
  unfold encI
  simp only [List.append_assoc]
  rfl
theorem holds (x : In) (ns : List Int) (i n : Int) (h0 : okD (.st [(.int .i64), (.int .i64), (.int .i64), (.int .i64), (.int .i64)]) x) (h1 : okD (.sl 5 (.int .u8)) ns) (h2 : okD (.int .i64) i) (h3 : okD (.int .i64) n) : law08_InstrTells x ns i n (fun y => some y) = some true := by
  unfold law08_InstrTells law08_InstrTells.body law08_known
  by_cases c1 : (ns.length : Int) > 100
  · simp (disch := first | omega | (simp only [List.length_append, List.length_cons, List.length_nil, List.length_set, List.length_take, List.length_drop, List.length_replicate]; omega) | fail) only [cond_t, cond_f, dt, df, w64, wu64, w8, ble_t, ble_f, ieqt, ieqf, inet, inef, Bool.not_true, Bool.not_false, Bool.true_and, Bool.and_true, Bool.false_and, Bool.and_false, Bool.not_not, dTrue, dFalse, Int.toNat_natCast, List.length_append, List.length_cons, List.length_nil, meet_self]
  · simp (disch := first | omega | (simp only [List.length_append, List.length_cons, List.length_nil, List.length_set, List.length_take, List.length_drop, List.length_replicate]; omega) | fail) only [cond_t, cond_f, dt, df, w64, wu64, w8, ble_t, ble_f, ieqt, ieqf, inet, inef, Bool.not_true, Bool.not_false, Bool.true_and, Bool.and_true, Bool.false_and, Bool.and_false, Bool.not_not, dTrue, dFalse, Int.toNat_natCast, List.length_append, List.length_cons, List.length_nil, meet_self]
    rw [check_, rcheck_]
    simp (disch := first | omega | (simp only [List.length_append, List.length_cons, List.length_nil, List.length_set, List.length_take, List.length_drop, List.length_replicate]; omega) | fail) only [cond_t, cond_f, dt, df, w64, wu64, w8, ble_t, ble_f, ieqt, ieqf, inet, inef, Bool.not_true, Bool.not_false, Bool.true_and, Bool.and_true, Bool.false_and, Bool.and_false, Bool.not_not, dTrue, dFalse, Int.toNat_natCast, List.length_append, List.length_cons, List.length_nil, meet_self]
    rw [iput_ x ns (by omega), riput_ x ns (by omega), seqt rfl]
    simp (disch := first | omega | (simp only [List.length_append, List.length_cons, List.length_nil, List.length_set, List.length_take, List.length_drop, List.length_replicate]; omega) | fail) only [cond_t, cond_f, dt, df, w64, wu64, w8, ble_t, ble_f, ieqt, ieqf, inet, inef, Bool.not_true, Bool.not_false, Bool.true_and, Bool.and_true, Bool.false_and, Bool.and_false, Bool.not_not, dTrue, dFalse, Int.toNat_natCast, List.length_append, List.length_cons, List.length_nil, meet_self]
    rw [operand_, roperand_]
    simp (disch := first | omega | (simp only [List.length_append, List.length_cons, List.length_nil, List.length_set, List.length_take, List.length_drop, List.length_replicate]; omega) | fail) only [cond_t, cond_f, dt, df, w64, wu64, w8, ble_t, ble_f, ieqt, ieqf, inet, inef, Bool.not_true, Bool.not_false, Bool.true_and, Bool.and_true, Bool.false_and, Bool.and_false, Bool.not_not, dTrue, dFalse, Int.toNat_natCast, List.length_append, List.length_cons, List.length_nil, meet_self]
    rw [with_, rwith_]
    simp (disch := first | omega | (simp only [List.length_append, List.length_cons, List.length_nil, List.length_set, List.length_take, List.length_drop, List.length_replicate]; omega) | fail) only [cond_t, cond_f, dt, df, w64, wu64, w8, ble_t, ble_f, ieqt, ieqf, inet, inef, Bool.not_true, Bool.not_false, Bool.true_and, Bool.and_true, Bool.false_and, Bool.and_false, Bool.not_not, dTrue, dFalse, Int.toNat_natCast, List.length_append, List.length_cons, List.length_nil, meet_self, beq_self_eq_true]

end Go.Proofs.Ytfpefjpbkgejdaa.instrTells
