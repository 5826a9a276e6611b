/- SumsTell of the layer sum: for all bytes, places and differences the law answers true. No conditions. -/
import Derived.Test.YtbplnfklimhdaaaPGx3
namespace Go.Proofs.Ytbplnfklimhdaaa.Pure
open Go.RowKit Go.Proofs.Ytbplnfklimhdaaa.PG Go.Proofs.YtbplnfklimhdaaaW.PrintWords Go.Proofs.YtbplnfklimhdaaaW.PrintLast

theorem wf64 {a : Int} (h : (Lit.int .i64 a).wf = true) : -9223372036854775808 ≤ a ∧ a ≤ 9223372036854775807 := by
  simp only [Lit.wf, IntKind.min, IntKind.max, IntKind.signed, IntKind.bits, Bool.and_eq_true, decide_eq_true_eq, if_true] at h
  exact ⟨by omega, by omega⟩
theorem w64 {a : Int} (h : -9223372036854775808 ≤ a ∧ a ≤ 9223372036854775807) : wrap64 a = a := by unfold wrap64; omega
theorem w64_rng (a : Int) : -9223372036854775808 ≤ wrap64 a ∧ wrap64 a ≤ 9223372036854775807 := by unfold wrap64; omega
theorem or_nat (a b : Nat) (ha : a < 9223372036854775808) (hb : b < 9223372036854775808) : Go.bits .or .i64 (a : Int) (b : Int) = ((a ||| b : Nat) : Int) := by
  have h1 : (BitVec.ofInt 64 (a : Int)) = BitVec.ofNat 64 a := rfl
  have h2 : (BitVec.ofInt 64 (b : Int)) = BitVec.ofNat 64 b := rfl
  have h3 : a ||| b < 2 ^ 63 := Nat.or_lt_two_pow (by omega) (by omega)
  show IntKind.wrap .i64 (((BitVec.ofInt 64 (a : Int)) ||| (BitVec.ofInt 64 (b : Int))).toNat : Int) = _
  rw [h1, h2, BitVec.toNat_or, BitVec.toNat_ofNat, BitVec.toNat_ofNat, Nat.mod_eq_of_lt (by omega), Nat.mod_eq_of_lt (by omega)]
  rw [IntKind.wrap_i64]; omega
theorem or_shl (k : Nat) (h x : Int) (hh : 0 ≤ h) (hx : 0 ≤ x ∧ x < 2 ^ k) (hm : h * 2 ^ k < 9223372036854775808) (hk : k ≤ 62) : Go.bits .or .i64 (h * 2 ^ k) x = h * 2 ^ k + x := by
  obtain ⟨a, rfl⟩ := Int.eq_ofNat_of_zero_le hh
  obtain ⟨b, rfl⟩ := Int.eq_ofNat_of_zero_le hx.1
  have hb : b < 2 ^ k := by have := hx.2; exact_mod_cast this
  have hp : (2 : Nat) ^ k ≤ 2 ^ 62 := Nat.pow_le_pow_right (by decide) hk
  have e : ((a : Int) * 2 ^ k) = ((2 ^ k * a : Nat) : Int) := by rw [Nat.mul_comm]; push_cast; rfl
  rw [e] at hm ⊢
  rw [or_nat _ _ (by omega) (by omega), ← Nat.two_pow_add_eq_or_of_lt hb]
  push_cast; rfl
/-- the value of bytes, the most significant one first -/
def val (l : List Int) (n : Int) : Int := l.foldl (fun n x => n * 256 + x) n
def Byte (x : Int) : Prop := 0 ≤ x ∧ x < 256
theorem wfByte {x : Int} (h : (Lit.int .u8 x).wf = true) : Byte x := by
  simp only [Lit.wf, IntKind.min, IntKind.max, IntKind.signed, IntKind.bits, Bool.and_eq_true] at h
  exact ⟨by have := h.1; simpa using this, by have := h.2; simp at this; omega⟩
theorem val_rng : ∀ (l : List Int) (n : Int), 0 ≤ n → (∀ x ∈ l, Byte x) → n * 256 ^ l.length ≤ val l n ∧ val l n < (n + 1) * 256 ^ l.length
  | [], n, h, _ => by simp [val]; omega
  | x :: xs, n, h, hb => by
    have hx := hb x (by simp)
    have := val_rng xs (n * 256 + x) (by have := hx.1; omega) (fun y hy => hb y (by simp [hy]))
    have e : val (x :: xs) n = val xs (n * 256 + x) := rfl
    rw [e, List.length_cons, Int.pow_succ]
    have hp : (0 : Int) < 256 ^ xs.length := Int.pow_pos (by decide)
    generalize (256 : Int) ^ xs.length = P at *
    obtain ⟨h1, h2⟩ := this
    obtain ⟨hx1, hx2⟩ := hx
    have e1 : n * (P * 256) = n * 256 * P := by rw [Int.mul_comm P, Int.mul_assoc]
    have e2 : (n + 1) * (P * 256) = (n * 256 + 256) * P := by rw [Int.mul_comm P, ← Int.mul_assoc, Int.add_mul]; rfl
    rw [e1, e2]
    constructor
    · have := Int.mul_le_mul_of_nonneg_right (a := n * 256) (b := n * 256 + x) (c := P) (by omega) (by omega)
      omega
    · have := Int.mul_le_mul_of_nonneg_right (a := n * 256 + x + 1) (b := n * 256 + 256) (c := P) (by omega) (by omega)
      omega
theorem num_val : ∀ (l : List Int) (n : Int), 0 ≤ n → (∀ x ∈ l, Byte x) → (n + 1) * 256 ^ l.length ≤ 9223372036854775808 → octet_Reader_Num_num l n = val l n
  | [], n, h, _, _ => rfl
  | x :: xs, n, h, hb, hm => by
    have hx := hb x (by simp)
    rw [List.length_cons, Int.pow_succ] at hm
    have hp : (0 : Int) < 256 ^ xs.length := Int.pow_pos (by decide)
    have e2 : (n + 1) * (256 ^ xs.length * 256) = (n * 256 + 256) * 256 ^ xs.length := by rw [Int.mul_comm (256 ^ xs.length), ← Int.mul_assoc, Int.add_mul]; rfl
    rw [e2] at hm
    have h1 : n * 256 + 256 ≤ 9223372036854775808 := by
      have := Int.mul_le_mul_of_nonneg_left (a := 1) (b := (256 : Int) ^ xs.length) (c := n * 256 + 256) (by omega) (by omega)
      omega
    have eo : Go.bits .or .i64 (wrap64 (n * 256)) (wrap64 x) = n * 256 + x := by
      rw [w64 (by omega), w64 (by have := hx.1; have := hx.2; omega)]
      exact or_shl 8 n x h ⟨hx.1, hx.2⟩ (by show n * 256 < _; omega) (by decide)
    show octet_Reader_Num_num xs (Go.bits .or .i64 (wrap64 (n * 256)) (wrap64 x)) = val xs (n * 256 + x)
    rw [eo]
    refine num_val xs _ (by have := hx.1; omega) (fun y hy => hb y (by simp [hy])) ?_
    have := Int.mul_le_mul_of_nonneg_right (a := n * 256 + x + 1) (b := n * 256 + 256) (c := (256 : Int) ^ xs.length) (by have := hx.2; omega) (by omega)
    omega
theorem bytes_succ (n : Int) (m : Nat) : octet_Put.bytes n (m + 1) = octet_Put.byte n m :: octet_Put.bytes n m := by
  unfold octet_Put.bytes
  rw [List.range_succ_eq_map, List.map_cons, List.map_map]
  congr 1
  apply List.map_congr_left
  intro j hj
  simp only [Function.comp]
  congr 1
  omega
theorem bytes_len (n : Int) (m : Nat) : (octet_Put.bytes n m).length = m := by simp [octet_Put.bytes]
theorem bytes_byte (n : Int) (m : Nat) : ∀ x ∈ octet_Put.bytes n m, Byte x := by
  intro x hx
  obtain ⟨j, _, rfl⟩ := List.mem_map.1 hx
  exact ⟨Int.emod_nonneg _ (by decide), Int.emod_lt_of_pos _ (by decide)⟩
theorem pow256 (m : Nat) : (2 : Int) ^ (8 * m) = 256 ^ m := by rw [Int.pow_mul]; rfl
theorem mod_step (n P : Int) (hP : 0 < P) : n % (P * 256) = n / P % 256 * P + n % P := by
  have h1 := Int.mul_ediv_add_emod n P
  have h2 := Int.mul_ediv_add_emod (n / P) 256
  have r1 := Int.emod_nonneg n (b := P) (by omega)
  have r2 := Int.emod_lt_of_pos n hP
  have r3 := Int.emod_nonneg (n / P) (b := 256) (by decide)
  have r4 := Int.emod_lt_of_pos (n / P) (b := 256) (by decide)
  have e : n = n / P % 256 * P + n % P + P * 256 * (n / P / 256) := by
    conv => lhs; rw [← h1, ← h2]
    rw [Int.mul_add, ← Int.mul_assoc, Int.mul_comm P (n / P % 256)]
    omega
  have b1 : n / P % 256 * P ≤ 255 * P := Int.mul_le_mul_of_nonneg_right (by omega) (by omega)
  have b2 : 0 ≤ n / P % 256 * P := Int.mul_nonneg r3 (by omega)
  conv => lhs; rw [e]
  rw [Int.add_mul_emod_self_left]
  exact Int.emod_eq_of_lt (by omega) (by omega)
theorem val_bytes (n : Int) : ∀ (m : Nat) (s : Int), val (octet_Put.bytes n m) s = s * 256 ^ m + n % 256 ^ m
  | 0, s => by simp [octet_Put.bytes, val]
  | m + 1, s => by
    rw [bytes_succ]
    show val (octet_Put.bytes n m) (s * 256 + octet_Put.byte n m) = _
    have hp : (0 : Int) < 256 ^ m := Int.pow_pos (by decide)
    rw [val_bytes n m, Int.pow_succ, mod_step n _ hp]
    unfold octet_Put.byte
    rw [pow256, Int.add_mul, Int.mul_comm (256 ^ m) 256, Int.mul_assoc]
    omega
theorem one_eq (a x : Int) (ha : 0 ≤ a ∧ a < 65521) (hx : Byte x) : sum_Adder_Add_one a x = (a + x) % 65521 := by
  unfold sum_Adder_Add_one
  obtain ⟨h1, h2⟩ := hx
  rw [w64 (a := x) (by omega), w64 (by omega), Int.tmod_eq_emod_of_nonneg (by omega)]
theorem two_rng (b a : Int) (ha : 0 ≤ a ∧ a < 65521) (hb : 0 ≤ b ∧ b < 65521) : sum_Adder_Add_two b a = (b + a) % 65521 := by
  unfold sum_Adder_Add_two
  rw [w64 (by omega), Int.tmod_eq_emod_of_nonneg (by omega)]
theorem go_eq : ∀ (l : List Int) (a b : Int), 0 ≤ a ∧ a < 65521 → 0 ≤ b ∧ b < 65521 → (∀ x ∈ l, Byte x) → (sum_Adder_Add_go l a b).1 = (a + l.sum) % 65521 ∧ 0 ≤ (sum_Adder_Add_go l a b).2 ∧ (sum_Adder_Add_go l a b).2 < 65521
  | [], a, b, ha, hb, _ => by
    show a = _ ∧ 0 ≤ b ∧ b < 65521
    rw [List.sum_nil]; omega
  | x :: xs, a, b, ha, hb, h => by
    have hx := h x (by simp)
    have e1 := one_eq a x ha hx
    have r1 : 0 ≤ sum_Adder_Add_one a x ∧ sum_Adder_Add_one a x < 65521 := by rw [e1]; omega
    have e2 := two_rng b _ r1 hb
    have r2 : 0 ≤ sum_Adder_Add_two b (sum_Adder_Add_one a x) ∧ sum_Adder_Add_two b (sum_Adder_Add_one a x) < 65521 := by rw [e2]; omega
    obtain ⟨g1, g2⟩ := go_eq xs _ _ r1 r2 (fun y hy => h y (by simp [hy]))
    refine ⟨?_, g2⟩
    show (sum_Adder_Add_go xs _ _).1 = _
    rw [g1, e1, List.sum_cons]; omega
/-- the sum of bytes -/
def ad (l : List Int) : Int := (sum_Adder_Add_go l 1 0).2 * 65536 + (1 + l.sum) % 65521
theorem of_eq (l : List Int) (h : ∀ x ∈ l, Byte x) : sum_Of.f l = some (ad l) ∧ 0 ≤ ad l ∧ ad l < 4294967296 ∧ ad l % 65536 = (1 + l.sum) % 65521 := by
  obtain ⟨g1, g2, g3⟩ := go_eq l 1 0 (by decide) (by decide) h
  unfold sum_Of.f ad
  rw [g1]
  refine ⟨?_, by omega, by omega, by omega⟩
  congr 1
  rw [w64 (by omega)]
  exact or_shl 16 _ _ g2 ⟨by omega, by omega⟩ (by omega) (by decide)
theorem seal_eq (l : List Int) (h : ∀ x ∈ l, Byte x) (hl : l.length ≤ 4000) : sum_Seal.f l = some (l ++ octet_Put.bytes (ad l) 4) := by
  unfold sum_Seal.f octet_Put.f
  rw [(of_eq l h).1]
  simp only [Option.bind_some]
  rw [if_pos (by omega), if_neg (by decide), if_neg (by decide)]
  rfl
theorem num4 (l : List Int) (hl : l.length = 4) (h : ∀ x ∈ l, Byte x) : octet_Reader_Num.f l 0 true false 4 = some (val l 0, 4, true, false) := by
  unfold octet_Reader_Num.f
  rw [if_pos (by omega), if_pos (by refine ⟨rfl, rfl, by decide, by decide, by omega⟩)]
  have e : (l.take ((0 : Int) + 4).toNat).drop (0 : Int).toNat = l := by
    show (l.take 4).drop 0 = l
    rw [List.drop_zero, List.take_of_length_le (by omega)]
  rw [e, num_val l 0 (by decide) h (by rw [hl]; decide)]
  rfl
theorem open_eq (l t : List Int) (ht : t.length = 4) (hb : ∀ x ∈ l, Byte x) (hc : ∀ x ∈ t, Byte x) (hl : l.length ≤ 4000) : sum_Open.f (l ++ t) = some (if val t 0 = ad l then (l, 0) else ([], 4)) := by
  unfold sum_Open.f
  have e : wrap64 (((l ++ t).length : Int) - 4) = (l.length : Int) := by
    rw [List.length_append, ht, w64 (by omega)]; omega
  rw [e, if_neg (by omega), if_pos (by omega), if_pos (by rw [List.length_append]; omega), Int.toNat_natCast, List.drop_left, List.take_left]
  unfold octet_New.f
  rw [if_pos (by omega)]
  simp only [Option.bind_some]
  rw [num4 t ht hc]
  simp only [Option.bind_some]
  rw [(of_eq l hb).1]
  simp only [Option.bind_some]
  by_cases hv : val t 0 = ad l
  · rw [if_pos hv, if_pos hv, if_pos (by simp; omega)]; rfl
  · rw [if_neg hv, if_neg hv]
theorem val_ad (l : List Int) (h : ∀ x ∈ l, Byte x) : val (octet_Put.bytes (ad l) 4) 0 = ad l := by
  rw [val_bytes]
  have := (of_eq l h).2
  show 0 * 256 ^ 4 + ad l % 4294967296 = ad l
  omega
theorem sum_set : ∀ (l : List Int) (i : Nat) (x : Int), i < l.length → (l.set i x).sum = l.sum - l.getD i 0 + x
  | [], i, x, h => by simp at h
  | y :: ys, 0, x, _ => by simp; omega
  | y :: ys, i + 1, x, h => by
    have := sum_set ys i x (by simpa using h)
    simp only [List.set_cons_succ, List.sum_cons, List.getD_cons_succ, this]; omega
theorem val_inj : ∀ (l m : List Int) (a b : Int), l.length = m.length → (∀ x ∈ l, Byte x) → (∀ x ∈ m, Byte x) → val l a = val m b → a = b ∧ l = m
  | [], [], a, b, _, _, _, h => ⟨h, rfl⟩
  | x :: xs, y :: ys, a, b, hl, h1, h2, h => by
    have r := val_inj xs ys (a * 256 + x) (b * 256 + y) (by simpa using hl) (fun z hz => h1 z (by simp [hz])) (fun z hz => h2 z (by simp [hz])) h
    have hx := h1 x (by simp)
    have hy := h2 y (by simp)
    unfold Byte at hx hy
    have : a = b ∧ x = y := by have := r.1; omega
    exact ⟨this.1, by rw [this.2, r.2]⟩
  | [], _ :: _, _, _, hl, _, _, _ => by simp at hl
  | _ :: _, [], _, _, hl, _, _, _ => by simp at hl
theorem set_byte (l : List Int) (i : Nat) (x : Int) (h : ∀ y ∈ l, Byte y) (hx : Byte x) : ∀ y ∈ l.set i x, Byte y := by
  intro y hy
  rcases List.mem_or_eq_of_mem_set hy with h' | rfl
  · exact h y h'
  · exact hx
theorem lt_of_set (l : List Int) (h : ∀ x ∈ l, Byte x) (i : Nat) (hlt : i < l.length) (x : Int) (hx : Byte x) (hne : x ≠ l.getD i 0) : ad l ≠ ad (l.set i x) := by
  intro he
  have h1 := (of_eq l h).2.2.2
  have h2 := (of_eq _ (set_byte l i x h hx)).2.2.2
  rw [← he, h1, sum_set l i x hlt] at h2
  have hm : Byte (l.getD i 0) := by rw [List.getD_eq_getElem?_getD, List.getElem?_eq_getElem hlt, Option.getD_some]; exact h _ (List.getElem_mem hlt)
  unfold Byte at hm hx
  generalize l.getD i 0 = y at *
  generalize l.sum = s at *
  clear he h1
  omega
theorem told1 (l t : List Int) (h : ∀ x ∈ l, Byte x) (hl : l.length ≤ 3000) (ht : t.length = 4) (htb : ∀ x ∈ t, Byte x) (hv : val t 0 = ad l) (i : Nat) (hlt : i < l.length) (x : Int) (hx : Byte x) (hne : x ≠ l.getD i 0) : sum_Open.f (l.set i x ++ t) = some ([], 4) := by
  rw [open_eq _ _ ht (set_byte l i x h hx) htb (by rw [List.length_set]; omega), if_neg]
  rw [hv]; exact lt_of_set l h i hlt x hx hne
theorem told2 (l t : List Int) (h : ∀ x ∈ l, Byte x) (hl : l.length ≤ 3000) (ht : t.length = 4) (htb : ∀ x ∈ t, Byte x) (hv : val t 0 = ad l) (i : Nat) (hlt : i < t.length) (x : Int) (hx : Byte x) (hne : x ≠ t.getD i 0) : sum_Open.f (l ++ t.set i x) = some ([], 4) := by
  rw [open_eq _ _ (by rw [List.length_set, ht]) h (set_byte t i x htb hx) (by omega), if_neg]
  rw [← hv]
  intro he
  have := (val_inj _ _ 0 0 (by rw [List.length_set]) (set_byte _ _ x htb hx) htb he).2
  apply hne
  have e2 : (t.set i x).getD i 0 = x := by
    rw [List.getD_eq_getElem?_getD, List.getElem?_set_self hlt]; rfl
  rw [← this, e2]
theorem told (l t : List Int) (h : ∀ x ∈ l, Byte x) (hl : l.length ≤ 3000) (ht : t.length = 4) (htb : ∀ x ∈ t, Byte x) (hv : val t 0 = ad l) (i : Nat) (hi : i < l.length + t.length) (x : Int) (hx : Byte x) (hne : x ≠ (l ++ t).getD i 0) : sum_Open.f ((l ++ t).set i x) = some ([], 4) := by
  by_cases hlt : i < l.length
  · have e : (l ++ t).set i x = l.set i x ++ t := List.set_append_left _ _ hlt
    have e2 : (l ++ t).getD i 0 = l.getD i 0 := by rw [List.getD_eq_getElem?_getD, List.getElem?_append_left hlt, ← List.getD_eq_getElem?_getD]
    rw [e2] at hne
    rw [e]
    exact told1 l t h hl ht htb hv i hlt x hx hne
  · have hge : l.length ≤ i := Nat.le_of_not_lt hlt
    have e : (l ++ t).set i x = l ++ t.set (i - l.length) x := List.set_append_right _ _ hge
    have e2 : (l ++ t).getD i 0 = t.getD (i - l.length) 0 := by rw [List.getD_eq_getElem?_getD, List.getElem?_append_right hge, ← List.getD_eq_getElem?_getD]
    rw [e2] at hne
    rw [e]
    exact told2 l t h hl ht htb hv (i - l.length) (Nat.sub_lt_left_of_lt_add hge hi) x hx hne
theorem SumsTell : sheerleglaw03_SumsTell.Pure := by
  intro l0 a1 a2 h1 h2 hb ha1 ha2
  clear h1 h2
  have hB : ∀ x ∈ l0, Byte x := fun x hx => wfByte (hb x hx)
  refine ⟨2, ?_⟩
  have hk : ((sheerleglaw03_known.f).bind fun t => some t) = some true := rfl
  unfold sheerleglaw03_SumsTell.f
  by_cases hl : (l0.length : Int) > 3000
  · rw [if_pos hl]; exact hk
  · rw [if_neg hl, seal_eq l0 hB (by omega), Option.bind_some]
    have hqv := val_ad l0 hB
    have hql : (octet_Put.bytes (ad l0) 4).length = 4 := bytes_len _ _
    have hqb : ∀ x ∈ octet_Put.bytes (ad l0) 4, Byte x := bytes_byte _ _
    generalize octet_Put.bytes (ad l0) 4 = q at *
    have hlen : (l0 ++ q).length = l0.length + 4 := by rw [List.length_append, hql]
    have hw : ((l0 ++ q).length : Int) = wrap64 ((l0.length : Int) + 4) := by rw [hlen, w64 (by omega)]; omega
    rw [if_pos hw, open_eq l0 q hql hB hqb (by omega), if_pos hqv, Option.bind_some, if_pos rfl]
    show sheerleglaw03_SumsTell.j0 2 a1 a2 (l0 ++ q) false = some true
    have hj : sheerleglaw03_SumsTell.j1 1 a1 a2 (l0 ++ q) true = some true := by
      rw [sheerleglaw03_SumsTell.j1.eq_def]
      exact (if_pos rfl).trans hk
    rw [sheerleglaw03_SumsTell.j0.eq_def]
    dsimp only
    rw [if_neg (by decide)]
    by_cases c1 : a1 < 0
    · rw [if_pos c1]; exact hj
    rw [if_neg c1]
    by_cases c2 : a1 ≥ ((l0 ++ q).length : Int)
    · rw [if_pos c2]; exact hj
    rw [if_neg c2]
    by_cases c3 : a2 = 0
    · rw [show (a2 == 0) = true from beq_iff_eq.mpr c3]; exact hj
    rw [show (a2 == 0) = false from beq_eq_false_iff_ne.mpr c3]
    rw [sheerleglaw03_SumsTell.j1.eq_def]
    dsimp only
    have hy : Byte ((l0 ++ q).getD a1.toNat 0) := by
      have hlt : a1.toNat < (l0 ++ q).length := by omega
      rw [List.getD_eq_getElem?_getD, List.getElem?_eq_getElem hlt, Option.getD_some]
      rcases List.mem_append.1 (List.getElem_mem hlt) with h | h
      · exact hB _ h
      · exact hqb _ h
    have hz := wfByte ha2
    rw [if_neg (by decide), if_pos (by omega), if_pos (by omega), told l0 q hB (by omega) hql hqb hqv a1.toNat (by omega) _ ⟨Int.emod_nonneg _ (by decide), Int.emod_lt_of_pos _ (by decide)⟩ (by
      show (List.getD _ a1.toNat 0 + a2) % 256 ≠ _
      unfold Byte at hy hz
      generalize (l0 ++ q).getD a1.toNat 0 = y at *
      omega), Option.bind_some]
    exact hk

end Go.Proofs.Ytbplnfklimhdaaa.Pure
