/- What the plain functions answer: the law, without program or memory. -/
import Derived.Test.YtpmgmpaodjcfjaaMG
import Derived.IntWalk
namespace Go.Proofs.Ytpmgmpaodjcfjaa.octetReads
open Go.AX Go.Proofs.Ytpmgmpaodjcfjaa.g
set_option linter.unusedVariables false
set_option linter.unusedSimpArgs false
theorem cond_ite (b : Bool) (x y : Option Bool) : cond_ b x y = if b = true then x else y := by cases b <;> rfl
@[simp] theorem cond_t (x y : Option Bool) : cond_ true x y = x := rfl
@[simp] theorem cond_f (x y : Option Bool) : cond_ false x y = y := rfl
theorem cond_pos {b : Bool} {x y : Option Bool} (h : b = true) : cond_ b x y = x := by rw [h]; rfl
theorem cond_neg {b : Bool} {x y : Option Bool} (h : b = false) : cond_ b x y = y := by rw [h]; rfl
@[simp] theorem meet_self (x : Option Bool) : meet x x = x := by
  cases x with
  | none => rfl
  | some a => simp [meet]
theorem w64 {n : Int} (h1 : -9223372036854775808 ≤ n) (h2 : n ≤ 9223372036854775807) : IntKind.wrap .i64 n = n := IntWalk.i64_in n ⟨h1, h2⟩
theorem w8 {n : Int} (h1 : 0 ≤ n) (h2 : n ≤ 255) : IntKind.wrap .u8 n = n := IntWalk.u8_in n ⟨h1, h2⟩
theorem wu64 {n : Int} (h1 : 0 ≤ n) (h2 : n ≤ 18446744073709551615) : IntKind.wrap .u64 n = n := IntWalk.u64_in n ⟨h1, h2⟩
theorem ble_t {a b : Nat} (h : a ≤ b) : Nat.ble a b = true := by rw [Nat.ble_eq]; exact h
theorem ok64 {n : Int} (h : okD (.int .i64) n) : -9223372036854775808 ≤ n ∧ n ≤ 9223372036854775807 := by
  have := okD_int.1 h
  simpa [Lit.wf, IntKind.min, IntKind.max, IntKind.bits, IntKind.signed, i_] using this
theorem not_t {p : Prop} [Decidable p] (h : ¬p) : (!decide p) = true := by simp [h]
theorem not_f {p : Prop} [Decidable p] (h : p) : (!decide p) = false := by simp [h]
theorem w64_cong {a b : Int} (h : a % 18446744073709551616 = b % 18446744073709551616) : IntKind.wrap .i64 a = IntKind.wrap .i64 b := by
  rw [IntKind.wrap_i64, IntKind.wrap_i64]
  omega
theorem w64_mod (a : Int) : IntKind.wrap .i64 a % 18446744073709551616 = a % 18446744073709551616 := by
  rw [IntKind.wrap_i64]
  omega
theorem ofInt_nat (a : Int) : (BitVec.ofInt 64 a).toNat = (a % 18446744073709551616).toNat := by
  rw [BitVec.toNat_ofInt]
  rfl
theorem or_byte (U b : Int) (hb : 0 ≤ b ∧ b < 256) : IntKind.wrap .i64 (((BitVec.toNat ((BitVec.ofInt 64 (IntKind.wrap .i64 (IntKind.wrap .i64 U * 256))) ||| (BitVec.ofInt 64 (IntKind.wrap .i64 b)))) : Nat) : Int) = IntKind.wrap .i64 (U * 256 + b) := by
  apply w64_cong
  rw [BitVec.toNat_or, ofInt_nat, ofInt_nat, w64_mod, w64_mod]
  have e1 : (IntKind.wrap .i64 U * 256) % 18446744073709551616 = (U % 72057594037927936) * 256 := by
    have := w64_mod U
    omega
  have e2 : b % 18446744073709551616 = b := by omega
  rw [e1, e2]
  have e3 : ((U % 72057594037927936) * 256).toNat = (U % 72057594037927936).toNat <<< 8 := by
    rw [Nat.shiftLeft_eq]
    omega
  rw [e3, ← Nat.shiftLeft_add_eq_or_of_lt (by omega : b.toNat < 2 ^ 8), Nat.shiftLeft_eq]
  omega
/-- bytes as a number -/
def val (bs : List Int) : Int := bs.foldl (fun u b => u * 256 + b) 0
theorem val_snoc (bs : List Int) (b : Int) : val (bs ++ [b]) = val bs * 256 + b := by simp [val]
def bytesOk (ns : List Int) : Prop := ∀ x ∈ ns, 0 ≤ x ∧ x < 256
theorem cut_snoc {ns : List Int} {m i : Nat} (h : m + i < ns.length) : (ns.drop m).take (i + 1) = (ns.drop m).take i ++ [ns.getD (m + i) 0] := by
  rw [List.take_add_one]
  congr 1
  rw [List.getElem?_drop, List.getElem?_eq_getElem h, List.getD_eq_getElem?_getD, List.getElem?_eq_getElem h]
  rfl
theorem getD_ok {ns : List Int} (h : bytesOk ns) {i : Nat} (hi : i < ns.length) : 0 ≤ ns.getD i 0 ∧ ns.getD i 0 < 256 := by
  rw [List.getD_eq_getElem?_getD, List.getElem?_eq_getElem hi]
  exact h _ (List.getElem_mem _)
theorem val_lt {ns : List Int} (h : bytesOk ns) : ∀ (m i : Nat), m + i ≤ ns.length → 0 ≤ val ((ns.drop m).take i) ∧ val ((ns.drop m).take i) < 256 ^ i
  | m, 0, _ => by simp [val]
  | m, i + 1, hi => by
    have := val_lt h m i (by omega)
    have hb := getD_ok h (i := m + i) (by omega)
    rw [cut_snoc (by omega), val_snoc, Int.pow_succ]
    omega
theorem numL {ns : List Int} (h : bytesOk ns) (hl : ns.length ≤ 100000) {m l : Nat} (hm : m + l ≤ ns.length) (a : Int) (b c : Bool) (k : Int → Nat → Nat → Int → Bool → Bool → List Int → Option Bool) : ∀ (n i : Nat), i ≤ l → l - i < n →
    octet_number_L0v1 n (IntKind.wrap .i64 (val ((ns.drop m).take i))) m l m l ((l : Nat) : Int) ((i : Nat) : Int) a b c ns k = k (IntKind.wrap .i64 (val ((ns.drop m).take l))) m l a b c ns
  | 0, i, _, h2 => by omega
  | n + 1, i, h1, h2 => by
    rw [octet_number_L0v1]
    unfold octet_number_L0v1.body
    by_cases hi : i < l
    · have hb := getD_ok h (i := m + i) (by omega)
      rw [cond_pos (decide_eq_true (by omega)), cond_pos (by simp; omega), Int.toNat_natCast, or_byte _ _ hb, ← val_snoc, ← cut_snoc (by omega), w64 (n := (i : Int) + 1) (by omega) (by omega), show ((i : Nat) : Int) + 1 = ((i + 1 : Nat) : Int) by omega]
      exact numL h hl hm a b c k n (i + 1) (by omega) (by omega)
    · rw [cond_neg (decide_eq_false (by omega)), show i = l by omega]
theorem take_ {ns : List Int} (hl : ns.length ≤ 100000) {a : Int} (ha : 0 ≤ a ∧ a ≤ (ns.length : Int)) (w : Int) (bad : Bool) (k1 : Int → Bool → Bool → List Int → List Int → Option Bool) (k2 : Nat → Nat → Int → Bool → Bool → List Int → Option Bool) :
    octet_Reader_take w a true bad ns k1 k2 = if bad = true ∨ w < 0 ∨ w > (ns.length : Int) - a then k1 a true true ns [] else k2 a.toNat w.toNat (a + w) true bad ns := by
  unfold octet_Reader_take octet_Reader_take.body octet_Reader_Bad octet_Reader_Bad.body octet_Reader_Left octet_Reader_Left.body octet_Reader_spoil octet_Reader_spoil.body
  dsimp only
  rw [cond_pos (by rfl)]
  cases bad with
  | true => simp
  | false =>
    rw [cond_pos (by rfl)]
    by_cases h1 : w < 0
    · rw [cond_neg (not_f h1), if_pos (.inr (.inl h1))]
    · rw [cond_pos (not_t h1), w64 (n := (ns.length : Int) - a) (by omega) (by omega)]
      by_cases h2 : w > (ns.length : Int) - a
      · rw [cond_pos (decide_eq_true h2), if_pos (.inr (.inr h2))]
      · rw [cond_neg (decide_eq_false h2), if_neg (by simp; omega), w64 (n := a + w) (by omega) (by omega), w64 (n := a + w - w) (by omega) (by omega), cond_pos (by simp; omega)]
        rw [show a + w - w = a by omega, show a + w - a = w by omega]
theorem numNil (a : Int) (b c : Bool) (ns : List Int) (k : Int → Int → Bool → Bool → List Int → List Int → Option Bool) : octet_number_L0 ROUNDS 0 (([] : List Int).length : Int) 0 a b c ns [] k = k 0 a b c ns [] := by
  have e : octet_number_L0 ROUNDS = octet_number_L0 (1180591620717411303423 + 1) := rfl
  rw [e, octet_number_L0]
  simp [octet_number_L0.body]
theorem number_ {ns : List Int} (h : bytesOk ns) (hl : ns.length ≤ 100000) {a : Int} (ha : 0 ≤ a ∧ a ≤ (ns.length : Int)) (w : Int) (bad : Bool) (k1 : Int → Int → Bool → Bool → List Int → List Int → Option Bool) (k2 : Int → Nat → Nat → Int → Bool → Bool → List Int → Option Bool) :
    octet_number w a true bad ns k1 k2 = if bad = true ∨ w < 1 ∨ w > 8 ∨ w > (ns.length : Int) - a then k1 0 a true true ns [] else k2 (IntKind.wrap .i64 (val ((ns.drop a.toNat).take w.toNat))) a.toNat w.toNat (a + w) true bad ns := by
  unfold octet_number octet_number.body
  by_cases h1 : w < 1
  · rw [cond_neg (not_f h1), take_ hl ha, if_pos (by omega), if_pos (by omega), numNil]
  · rw [cond_pos (not_t h1)]
    by_cases h2 : w > 8
    · rw [cond_pos (decide_eq_true h2), take_ hl ha, if_pos (by omega), if_pos (by omega), numNil]
    · rw [cond_neg (decide_eq_false h2), take_ hl ha]
      by_cases h3 : bad = true ∨ w < 0 ∨ w > (ns.length : Int) - a
      · rw [if_pos h3, if_pos (by rcases h3 with h | h | h; exact .inl h; omega; exact .inr (.inr (.inr h))), numNil]
      · have h3' : ¬ (bad = true) := fun e => h3 (.inl e)
        rw [if_neg h3, if_neg (by rintro (h | h | h | h); exact h3' h; omega; omega; exact h3 (.inr (.inr h)))]
        have := numL h hl (m := a.toNat) (l := w.toNat) (by omega) (a + w) true bad (fun n168 m169 m170 n171 b172 b173 ns174 => k2 n168 m169 m170 n171 b172 b173 ns174) ROUNDS 0 (by omega) (by unfold ROUNDS; omega)
        rw [List.take_zero] at this
        exact this
theorem val_from : ∀ (bs : List Int) (u : Int), bs.foldl (fun u b => u * 256 + b) u = u * 256 ^ bs.length + val bs
  | [], u => by simp [val]
  | b :: r, u => by
    have e : val (b :: r) = b * 256 ^ r.length + val r := by
      show (b :: r).foldl (fun u b => u * 256 + b) 0 = _
      rw [List.foldl_cons, val_from r]
      simp
    rw [List.foldl_cons, val_from r, e, List.length_cons, Int.pow_succ, Int.add_mul, Int.mul_assoc, Int.mul_comm 256]
    omega
theorem val_first {ns : List Int} {m l : Nat} (h : m + (l + 1) ≤ ns.length) : val ((ns.drop m).take (l + 1)) = ns.getD m 0 * 256 ^ l + val ((ns.drop (m + 1)).take l) := by
  have hm : m < ns.length := by omega
  rw [List.drop_eq_getElem_cons hm, List.take_succ_cons, val, List.foldl_cons, val_from, List.length_take, List.length_drop, Nat.min_eq_left (by omega), List.getD_eq_getElem?_getD, List.getElem?_eq_getElem hm]
  simp
theorem pow8 : ∀ i : Nat, i ≤ 8 → (256 : Int) ^ i ≤ 18446744073709551616 := by
  intro i hi
  rcases i with _ | _ | _ | _ | _ | _ | _ | _ | _ | i
  all_goals first | omega | decide
abbrev Rd := List Int × Int × Bool × Unit
theorem rnumL {ns : List Int} (h : bytesOk ns) (hl : ns.length ≤ 100000) {a : Int} {w : Int} (ha : 0 ≤ a) (hw : w ≤ 8) (hm : a + w ≤ (ns.length : Int)) (s : Bool) (bad : Bool) (x : Int) (y : Bool) (k : Int → Bool → Int → Rd → Int → Bool → Option Bool) : ∀ (n i : Nat), (i : Int) ≤ w → (w - i).toNat < n →
    ref02_Num_L0 n w s (val ((ns.drop a.toNat).take i)) (i : Int) (ns, (a, (bad, ()))) x y k = k w s (val ((ns.drop a.toNat).take w.toNat)) (ns, (a, (bad, ()))) x y
  | 0, i, _, h2 => by omega
  | n + 1, i, h1, h2 => by
    rw [ref02_Num_L0]
    unfold ref02_Num_L0.body
    by_cases hi : (i : Int) < w
    · have hb := getD_ok h (i := a.toNat + i) (by omega)
      have hv := val_lt h a.toNat i (by omega)
      have hv2 := val_lt h a.toNat (i + 1) (by omega)
      have hp := pow8 (i + 1) (by omega)
      have e : (IntKind.wrap .i64 (a + (i : Int))) = a + (i : Int) := w64 (by omega) (by omega)
      have e2 : (a + (i : Int)).toNat = a.toNat + i := by omega
      rw [cut_snoc (by omega), val_snoc] at hv2
      dsimp only
      rw [cond_pos (decide_eq_true hi), e, e2, cond_pos (by simp; omega), wu64 (n := val ((ns.drop a.toNat).take i) * 256) (by omega) (by omega), wu64 (n := ns.getD (a.toNat + i) 0) (by omega) (by omega), wu64 (by omega) (by omega), ← val_snoc, ← cut_snoc (by omega), w64 (n := (i : Int) + 1) (by omega) (by omega), show ((i : Nat) : Int) + 1 = ((i + 1 : Nat) : Int) by omega]
      exact rnumL h hl ha hw hm s bad x y k n (i + 1) (by omega) (by omega)
    · rw [cond_neg (decide_eq_false hi), show w.toNat = i by omega]
theorem rtopL {w u : Int} (hw : w ≤ 7) (t : Rd) (x : Int) (y : Bool) (k : Int → Int → Int → Rd → Int → Bool → Option Bool) : ∀ (n i : Nat), (i : Int) ≤ w → (w - i).toNat < n → ref02_Num_L2 n w u (256 ^ i) (i : Int) t x y k = k w u (256 ^ w.toNat) t x y
  | 0, i, _, h2 => by omega
  | n + 1, i, h1, h2 => by
    rw [ref02_Num_L2]
    unfold ref02_Num_L2.body
    by_cases hi : (i : Int) < w
    · have hp : (256 : Int) ^ (i + 1) ≤ 72057594037927936 := by
        have : i ≤ 6 := by omega
        rcases i with _ | _ | _ | _ | _ | _ | _ | i
        all_goals first | omega | decide
      have hp0 : (0 : Int) ≤ 256 ^ (i + 1) := Int.pow_nonneg (by omega)
      rw [cond_pos (decide_eq_true hi), ← Int.pow_succ, wu64 hp0 (by omega), w64 (n := (i : Int) + 1) (by omega) (by omega), show ((i : Nat) : Int) + 1 = ((i + 1 : Nat) : Int) by omega]
      exact rtopL hw t x y k n (i + 1) (by omega) (by omega)
    · rw [cond_neg (decide_eq_false hi), show w.toNat = i by omega]
def u64 (n : Int) : Int := n % 18446744073709551616
theorem wu64_eq (n : Int) : IntKind.wrap .u64 n = u64 n := by
  simp [IntKind.wrap, IntKind.bits, IntKind.signed, u64]
def sgn (ns : List Int) (a w : Int) : Int := if w < 8 ∧ 128 ≤ ns.getD a.toNat 0 then val ((ns.drop a.toNat).take w.toNat) - 256 ^ w.toNat else IntKind.wrap .i64 (val ((ns.drop a.toNat).take w.toNat))
theorem rnum_ {ns : List Int} (h : bytesOk ns) (hl : ns.length ≤ 100000) {a : Int} (ha : 0 ≤ a ∧ a ≤ (ns.length : Int)) (w : Int) (s bad : Bool) (k : Rd → Int → Option Bool) :
    ref02_Num (ns, (a, (bad, ()))) w s k = if bad = true ∨ w < 1 ∨ w > 8 ∨ w > (ns.length : Int) - a then k (ns, (a, (true, ()))) 0 else k (ns, (a + w, (bad, ()))) (if s = true then sgn ns a w else IntKind.wrap .i64 (val ((ns.drop a.toNat).take w.toNat))) := by
  unfold ref02_Num ref02_Num.body
  dsimp only
  cases bad with
  | true => simp
  | false =>
    rw [cond_pos (by rfl)]
    by_cases h1 : w < 1
    · rw [cond_neg (not_f h1), if_pos (.inr (.inl h1))]
    · rw [cond_pos (not_t h1)]
      by_cases h2 : w > 8
      · rw [cond_neg (not_f h2), if_pos (.inr (.inr (.inl h2)))]
      · rw [cond_pos (not_t h2), w64 (n := (ns.length : Int) - a) (by omega) (by omega)]
        by_cases h3 : w > (ns.length : Int) - a
        · rw [cond_pos (decide_eq_true h3), if_pos (.inr (.inr (.inr h3)))]
        · rw [cond_neg (decide_eq_false h3), if_neg (by simp; omega)]
          have hL := fun k => rnumL h hl (a := a) (w := w) ha.1 (by omega) (by omega) s false 0 false k ROUNDS 0 (by omega) (by unfold ROUNDS; omega)
          rw [List.take_zero] at hL
          have hL' := fun k => hL k
          refine (hL' _).trans ?_
          dsimp only
          rw [w64 (n := a + w) (by omega) (by omega)]
          cases s with
          | false => rfl
          | true =>
            rw [cond_pos rfl, if_pos rfl]
            unfold sgn
            by_cases h4 : w < 8
            · rw [cond_pos (decide_eq_true h4), cond_pos (by simp; omega)]
              by_cases h5 : 128 ≤ ns.getD a.toNat 0
              · rw [cond_pos (decide_eq_true h5), if_pos ⟨h4, h5⟩]
                have hv := val_lt h a.toNat w.toNat (by omega)
                have hp : (256 : Int) ^ w.toNat ≤ 72057594037927936 := by
                  have : w.toNat ≤ 7 := by omega
                  generalize w.toNat = j at this
                  rcases j with _ | _ | _ | _ | _ | _ | _ | _ | j
                  all_goals first | omega | decide
                have hT := rtopL (w := w) (u := val ((ns.drop a.toNat).take w.toNat)) (by omega) (ns, (a, (false, ()))) 0 false (fun n324 n325 n326 t327 n328 b329 => k (t327.1, (IntKind.wrap .i64 (t327.2.1 + n324), (t327.2.2.1, ()))) (IntKind.wrap .i64 (IntKind.wrap .u64 (n325 - n326)))) ROUNDS 0 (by omega) (by unfold ROUNDS; omega)
                refine hT.trans ?_
                dsimp only
                rw [w64 (n := a + w) (by omega) (by omega), wu64_eq]
                unfold u64
                congr 1
                rw [IntKind.wrap_i64]
                omega
              · rw [cond_neg (decide_eq_false h5), if_neg (fun h => h5 h.2)]
            · rw [cond_neg (decide_eq_false h4), if_neg (fun h => h4 h.1)]
theorem shl_ (V b0 R : Int) : ∀ w : Nat, 1 ≤ w → w ≤ 8 → V = b0 * 256 ^ (w - 1) + R → 0 ≤ R → R < 256 ^ (w - 1) → 0 ≤ b0 → b0 < 256 →
    Int.fdiv (IntKind.wrap .i64 (IntKind.wrap .i64 V * 2 ^ (8 * (8 - w)))) (2 ^ (8 * (8 - w))) = if w < 8 ∧ 128 ≤ b0 then V - 256 ^ w else IntKind.wrap .i64 V := by
  intro w h1 h2 hV hR0 hR1 hb0 hb1
  rw [Int.fdiv_eq_ediv_of_nonneg _ (Int.pow_nonneg (by omega)), IntKind.wrap_i64, IntKind.wrap_i64]
  rcases w with _ | _ | _ | _ | _ | _ | _ | _ | _ | w
  · omega
  all_goals first | omega | skip
  all_goals
    simp only [Nat.reduceAdd, Nat.reduceSub, Nat.reduceMul, Int.reducePow, Nat.zero_add, Int.pow_zero, Int.mul_one] at *
    split <;> omega
theorem num_ {ns : List Int} (h : bytesOk ns) (hl : ns.length ≤ 100000) {a : Int} (ha : 0 ≤ a ∧ a ≤ (ns.length : Int)) (w : Int) (bad : Bool) (k : Int → Int → Bool → Bool → List Int → Option Bool) :
    octet_Reader_Num w a true bad ns k = if bad = true ∨ w < 1 ∨ w > 8 ∨ w > (ns.length : Int) - a then k 0 a true true ns else k (IntKind.wrap .i64 (val ((ns.drop a.toNat).take w.toNat))) (a + w) true bad ns := by
  unfold octet_Reader_Num octet_Reader_Num.body
  rw [number_ h hl ha]
theorem signed_ {ns : List Int} (h : bytesOk ns) (hl : ns.length ≤ 100000) {a : Int} (ha : 0 ≤ a ∧ a ≤ (ns.length : Int)) (w : Int) (bad : Bool) (k : Int → Int → Bool → Bool → List Int → Option Bool) :
    octet_Reader_Signed w a true bad ns k = if bad = true ∨ w < 1 ∨ w > 8 ∨ w > (ns.length : Int) - a then k 0 a true true ns else k (sgn ns a w) (a + w) true bad ns := by
  unfold octet_Reader_Signed octet_Reader_Signed.body
  rw [number_ h hl ha]
  by_cases hf : bad = true ∨ w < 1 ∨ w > 8 ∨ w > (ns.length : Int) - a
  · rw [if_pos hf, if_pos hf, cond_pos (by rfl)]
  · rw [if_neg hf, if_neg hf]
    have h1 : 1 ≤ w ∧ w ≤ 8 ∧ w ≤ (ns.length : Int) - a := by
      refine ⟨?_, ?_, ?_⟩
      · exact Int.not_lt.1 fun g => hf (.inr (.inl g))
      · exact Int.not_lt.1 fun g => hf (.inr (.inr (.inl g)))
      · exact Int.not_lt.1 fun g => hf (.inr (.inr (.inr g)))
    have hw : ((w.toNat : Nat) : Int) = w := by omega
    rw [hw, w64 (n := 8 - w) (by omega) (by omega), wu64 (n := 8 - w) (by omega) (by omega), wu64 (n := 8 * (8 - w)) (by omega) (by omega), cond_neg (by simp; omega), cond_pos (by simp; omega), cond_pos (by simp; omega)]
    congr 1
    have hs : min (8 * (8 - w)).toNat 64 = 8 * (8 - w.toNat) := by omega
    have hlen : a.toNat + w.toNat ≤ ns.length := by omega
    obtain ⟨j, hj⟩ : ∃ j, w.toNat = j + 1 := ⟨w.toNat - 1, by omega⟩
    have hv := val_first (ns := ns) (m := a.toNat) (l := j) (by omega)
    have hr := val_lt h (a.toNat + 1) j (by omega)
    have hb := getD_ok h (i := a.toNat) (by omega)
    have := shl_ (val ((ns.drop a.toNat).take (j + 1))) (ns.getD a.toNat 0) (val ((ns.drop (a.toNat + 1)).take j)) (j + 1) (by omega) (by omega) (by simpa using hv) hr.1 (by simpa using hr.2) hb.1 hb.2
    rw [hs, hj, this]
    unfold sgn
    rw [hj]
    by_cases h4 : w < 8
    · have : j + 1 < 8 := by omega
      simp [h4, this]
    · have : ¬ j + 1 < 8 := by omega
      simp [h4, this]
theorem val_one {ns : List Int} {m : Nat} (hm : m < ns.length) : val ((ns.drop m).take 1) = ns.getD m 0 := by
  have := val_first (ns := ns) (m := m) (l := 0) (by omega)
  simpa [val] using this
theorem text_ {ns : List Int} (h : bytesOk ns) (hl : ns.length ≤ 100000) {a : Int} (ha : 0 ≤ a ∧ a ≤ (ns.length : Int)) (most : Int) (bad : Bool) (k : ByteArray → Int → Bool → Bool → List Int → Option Bool) :
    octet_Reader_Text most a true bad ns k = if bad = true ∨ a = (ns.length : Int) ∨ ns.getD a.toNat 0 > most ∨ ns.getD a.toNat 0 ≥ (ns.length : Int) - a then k ⟨#[]⟩ a true true ns else k (strOf ((ns.drop (a.toNat + 1)).take (ns.getD a.toNat 0).toNat)) (a + 1 + ns.getD a.toNat 0) true bad ns := by
  unfold octet_Reader_Text octet_Reader_Text.body
  unfold octet_Reader_Bad octet_Reader_Bad.body octet_Reader_Left octet_Reader_Left.body octet_Reader_spoil octet_Reader_spoil.body
  dsimp only
  rw [cond_pos (by rfl)]
  cases bad with
  | true => simp
  | false =>
    rw [cond_pos (by rfl), w64 (n := (ns.length : Int) - a) (by omega) (by omega)]
    by_cases h0 : a = (ns.length : Int)
    · rw [cond_pos (by simp; omega), if_pos (.inr (.inl h0))]
    · have hb := getD_ok h (i := a.toNat) (by omega)
      rw [cond_neg (by simp; omega), cond_pos (by simp; omega), w64 (n := ns.getD a.toNat 0) (by omega) (by omega)]
      by_cases h1 : ns.getD a.toNat 0 > most
      · rw [cond_neg (not_f h1), if_pos (.inr (.inr (.inl h1)))]
      · rw [cond_pos (not_t h1)]
        by_cases h2 : ns.getD a.toNat 0 ≥ (ns.length : Int) - a
        · rw [cond_pos (decide_eq_true h2), if_pos (.inr (.inr (.inr h2)))]
        · rw [cond_neg (decide_eq_false h2), if_neg (by rintro (g | g | g | g); cases g; exact h0 g; exact h1 g; exact h2 g), w64 (n := 1 + ns.getD a.toNat 0) (by omega) (by omega), take_ hl ha, if_neg (by rintro (g | g | g); cases g; omega; omega)]
          rw [cond_pos (by simp only [Bool.true_and, Bool.and_true, Bool.and_eq_true, decide_eq_true_eq]; omega)]
          rw [show (1 + ns.getD a.toNat 0).toNat - 1 = (ns.getD a.toNat 0).toNat by omega, show a + (1 + ns.getD a.toNat 0) = a + 1 + ns.getD a.toNat 0 by omega]
theorem rnext_ {ns : List Int} (h : bytesOk ns) (hl : ns.length ≤ 100000) {a : Int} (ha : 0 ≤ a ∧ a ≤ (ns.length : Int)) (most : Int) (bad : Bool) (k : Rd → ByteArray → Option Bool) :
    ref02_Next (ns, (a, (bad, ()))) most k = if bad = true ∨ a = (ns.length : Int) ∨ ns.getD a.toNat 0 > most ∨ ns.getD a.toNat 0 ≥ (ns.length : Int) - a then k (ns, (a, (true, ()))) ⟨#[]⟩ else k (ns, (a + 1 + ns.getD a.toNat 0, (bad, ()))) (strOf ((ns.drop (a.toNat + 1)).take (ns.getD a.toNat 0).toNat)) := by
  unfold ref02_Next ref02_Next.body
  rw [rnum_ h hl ha]
  cases bad with
  | true => simp
  | false =>
    by_cases h0 : a = (ns.length : Int)
    · rw [if_pos (by omega), if_pos (.inr (.inl h0))]
      simp
    · have hb := getD_ok h (i := a.toNat) (by omega)
      rw [if_neg (by rintro (g | g | g | g); cases g; omega; omega; omega), if_neg (by simp)]
      rw [show (1 : Int).toNat = 1 from rfl, val_one (by omega), w64 (n := ns.getD a.toNat 0) (by omega) (by omega)]
      dsimp only
      rw [cond_pos (by rfl)]
      by_cases h1 : ns.getD a.toNat 0 > most
      · rw [cond_neg (not_f h1), if_pos (.inr (.inr (.inl h1)))]
      · rw [cond_pos (not_t h1), w64 (n := (ns.length : Int) - (a + 1)) (by omega) (by omega)]
        by_cases h2 : ns.getD a.toNat 0 ≥ (ns.length : Int) - a
        · rw [cond_pos (decide_eq_true (by omega)), if_pos (.inr (.inr (.inr h2)))]
        · rw [cond_neg (decide_eq_false (by omega)), if_neg (by rintro (g | g | g | g); cases g; exact h0 g; exact h1 g; exact h2 g), w64 (n := a + 1 + ns.getD a.toNat 0) (by omega) (by omega), cond_pos (by simp only [Bool.true_and, Bool.and_true, Bool.and_eq_true, decide_eq_true_eq]; omega)]
          rw [show (a + 1).toNat = a.toNat + 1 by omega, show a + 1 + ns.getD a.toNat 0 - (a + 1) = ns.getD a.toNat 0 by omega]
abbrev Stp := Int × Int × Unit
theorem L0_ {ns : List Int} (h : bytesOk ns) (hl : ns.length ≤ 600) (ts : List Stp) (hts : ts.length ≤ 60) : ∀ (n : Nat) (i a : Int) (bad : Bool), 0 ≤ i → i ≤ (ts.length : Int) → ((ts.length : Int) - i).toNat < n → 0 ≤ a → a ≤ (ns.length : Int) → law02_OctetReads_L0 n ns ts i a true bad ns ns a bad (fun y => some y) (some true) = some true
  | 0, i, a, bad, _, _, g, _, _ => by omega
  | n + 1, i, a, bad, h0, h1, h2, h3, h4 => by
    rw [law02_OctetReads_L0]
    unfold law02_OctetReads_L0.body
    by_cases hi : i < (ts.length : Int)
    · have go : ∀ (a' : Int) (bad' : Bool), 0 ≤ a' → a' ≤ (ns.length : Int) → law02_OctetReads_L0 n ns ts (i + 1) a' true bad' ns ns a' bad' (fun y => some y) (some true) = some true := fun a' bad' g1 g2 => L0_ h hl ts hts n (i + 1) a' bad' (by omega) (by omega) (by omega) g1 g2
      have hb : (decide (0 ≤ i) && decide (i < (ts.length : Int))) = true := by simp; omega
      rw [cond_pos (decide_eq_true hi)]
      simp only [hb, cond_t]
      rw [w64 (n := i + 1) (by omega) (by omega)]
      generalize List.getD ts i.toNat ((0 : Int), ((0 : Int), ())) = x
      have fin : ∀ (a' : Int) (bad' : Bool), 0 ≤ a' → a' ≤ (ns.length : Int) → (octet_Reader_At a' true bad' ns fun n359 n360 b361 b362 ns363 => cond_ (!n359 != a') (octet_Reader_Left n360 b361 b362 ns363 fun n364 n365 b366 b367 ns368 => cond_ (!n364 != IntKind.wrap .i64 ((ns.length : Int) - a')) (octet_Reader_Bad n365 b366 b367 ns368 fun b369 n370 b371 b372 ns373 => cond_ (!b369 == bad') (some false) (law02_OctetReads_L0 n ns ts (i + 1) n370 b371 b372 ns373 ns a' bad' (fun y => some y) (some true))) (some false)) (some false)) = some true := by
        intro a' bad' g1 g2
        simp [octet_Reader_At, octet_Reader_At.body, octet_Reader_Left, octet_Reader_Left.body, octet_Reader_Bad, octet_Reader_Bad.body, go a' bad' g1 g2]
      have hl' : ns.length ≤ 100000 := by omega
      by_cases c0 : x.1 = 0
      · simp only [c0, beq_self_eq_true, Bool.not_true, cond_f, cond_t]
        rw [rnum_ h hl' ⟨h3, h4⟩]
        by_cases hf : bad = true ∨ x.2.1 < 1 ∨ x.2.1 > 8 ∨ x.2.1 > (ns.length : Int) - a
        · rw [if_pos hf, num_ h hl' ⟨h3, h4⟩, if_pos hf, cond_neg (by simp)]
          exact fin a true h3 h4
        · rw [if_neg hf, num_ h hl' ⟨h3, h4⟩, if_neg hf, cond_neg (by simp)]
          exact fin (a + x.2.1) bad (by omega) (by omega)
      · have c0' : (x.1 == 0) = false := by simpa using c0
        simp only [c0', Bool.not_false, cond_f, cond_t]
        by_cases c1 : x.1 = 1
        · have c1' : (x.1 == 1) = true := by simpa using c1
          simp only [c1', cond_t]
          rw [rnum_ h hl' ⟨h3, h4⟩]
          by_cases hf : bad = true ∨ x.2.1 < 1 ∨ x.2.1 > 8 ∨ x.2.1 > (ns.length : Int) - a
          · rw [if_pos hf, signed_ h hl' ⟨h3, h4⟩, if_pos hf, cond_neg (by simp)]
            exact fin a true h3 h4
          · rw [if_neg hf, signed_ h hl' ⟨h3, h4⟩, if_neg hf, cond_neg (by simp)]
            exact fin (a + x.2.1) bad (by omega) (by omega)
        · have c1' : (x.1 == 1) = false := by simpa using c1
          simp only [c1', cond_f]
          rw [rnext_ h hl' ⟨h3, h4⟩]
          by_cases hf : bad = true ∨ a = (ns.length : Int) ∨ ns.getD a.toNat 0 > x.2.1 ∨ ns.getD a.toNat 0 ≥ (ns.length : Int) - a
          · rw [if_pos hf, text_ h hl' ⟨h3, h4⟩, if_pos hf, cond_neg (by simp)]
            exact fin a true h3 h4
          · have hb := getD_ok h (i := a.toNat) (by have : ¬ a = (ns.length : Int) := fun e => hf (.inr (.inl e)); omega)
            have hlt : ¬ ns.getD a.toNat 0 ≥ (ns.length : Int) - a := fun e => hf (.inr (.inr (.inr e)))
            rw [if_neg hf, text_ h hl' ⟨h3, h4⟩, if_neg hf, cond_neg (by simp)]
            exact fin (a + 1 + ns.getD a.toNat 0) bad (by omega) (by omega)
    · rw [cond_neg (decide_eq_false hi)]
theorem holds (ns : List Int) (ts : List Stp) (h0 : okD (.sl 5 (.int .u8)) ns) (h1 : okD (.sl 37 (.st [.int .i64, .int .i64])) ts) : law02_OctetReads ns ts (fun y => some y) = some true := by
  have hb : bytesOk ns := fun x hx => by
    have := okD_int.1 ((okD_sl.1 h0).2 x hx)
    simp [Lit.wf, IntKind.min, IntKind.max, IntKind.bits, IntKind.signed, i_] at this
    omega
  unfold law02_OctetReads law02_OctetReads.body law02_known
  by_cases hl : (ns.length : Int) > 600
  · rw [cond_neg (not_f hl)]
  · rw [cond_pos (not_t hl)]
    by_cases hl2 : (ts.length : Int) > 60
    · rw [cond_pos (decide_eq_true hl2)]
    · rw [cond_neg (decide_eq_false hl2)]
      unfold octet_Newv1 octet_Newv1.body
      rw [ble_t (by omega), cond_t]
      exact L0_ hb (by omega) ts (by omega) ROUNDS 0 0 false (by omega) (by omega) (by unfold ROUNDS; omega) (by omega) (by omega)

end Go.Proofs.Ytpmgmpaodjcfjaa.octetReads
