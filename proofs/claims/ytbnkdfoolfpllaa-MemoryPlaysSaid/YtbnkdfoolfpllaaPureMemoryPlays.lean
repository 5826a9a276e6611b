/- What the plain functions answer: the law, without program or memory. -/
import Derived.Test.YtbnkdfoolfpllaaMG
import Derived.IntWalk
namespace Go.Proofs.Ytbnkdfoolfpllaa.memoryPlays
open Go.AX Go.Proofs.Ytbnkdfoolfpllaa.g
set_option linter.unusedVariables false
set_option linter.unusedSimpArgs false
theorem cond_ite (b : Bool) (x y : Option Bool) : cond_ b x y = if b = true then x else y := by cases b <;> rfl
@[simp] theorem cond_t (x y : Option Bool) : cond_ true x y = x := rfl
@[simp] theorem cond_f (x y : Option Bool) : cond_ false x y = y := rfl
theorem cond_pos {b : Bool} {x y : Option Bool} (h : b = true) : cond_ b x y = x := by rw [h]; rfl
theorem cond_neg {b : Bool} {x y : Option Bool} (h : b = false) : cond_ b x y = y := by rw [h]; rfl
@[simp] theorem meet_self (x : Option Bool) : meet x x = x := by
  cases x with
  | none => rfl
  | some a => simp [meet]
theorem w64 {n : Int} (h1 : -9223372036854775808 ≤ n) (h2 : n ≤ 9223372036854775807) : IntKind.wrap .i64 n = n := IntWalk.i64_in n ⟨h1, h2⟩
theorem w8 {n : Int} (h1 : 0 ≤ n) (h2 : n ≤ 255) : IntKind.wrap .u8 n = n := IntWalk.u8_in n ⟨h1, h2⟩
theorem wu64 {n : Int} (h1 : 0 ≤ n) (h2 : n ≤ 18446744073709551615) : IntKind.wrap .u64 n = n := IntWalk.u64_in n ⟨h1, h2⟩
theorem ble_t {a b : Nat} (h : a ≤ b) : Nat.ble a b = true := by rw [Nat.ble_eq]; exact h
theorem ok64 {n : Int} (h : okD (.int .i64) n) : -9223372036854775808 ≤ n ∧ n ≤ 9223372036854775807 := by
  have := okD_int.1 h
  simpa [Lit.wf, IntKind.min, IntKind.max, IntKind.bits, IntKind.signed, i_] using this
theorem not_t {p : Prop} [Decidable p] (h : ¬p) : (!decide p) = true := by simp [h]
theorem not_f {p : Prop} [Decidable p] (h : p) : (!decide p) = false := by simp [h]
def inn (n : Int) (ns : List Int) : Prop := 0 ≤ n ∧ n < (ns.length : Int)
instance (n : Int) (ns : List Int) : Decidable (inn n ns) := by unfold inn; infer_instance
theorem clone_ {ns : List Int} (h : ns.length ≤ 4194304) (k : List Int → Option Bool) : slices_Clone_int64_int64v1 ns k = k ns := by
  unfold slices_Clone_int64_int64v1 slices_Clone_int64_int64v1.body
  rw [ble_t (by omega)]
  cases ns <;> simp
theorem size_ (ns : List Int) (k : Int → Bool → List Int → Option Bool) : memory_Memory_Sizev2 true ns k = k (ns.length : Int) true ns := by
  unfold memory_Memory_Sizev2 memory_Memory_Sizev2.body; simp
theorem load_ (n : Int) (ns : List Int) (k : Int → Bool → Bool → List Int → Option Bool) : memory_Memory_Loadv2 n true ns k = if inn n ns then k (ns.getD n.toNat 0) true true ns else k 0 false true ns := by
  unfold memory_Memory_Loadv2 memory_Memory_Loadv2.body memory_Memory_atv4 memory_Memory_atv4.body
  simp only [size_]
  by_cases h : n < 0
  · rw [if_neg (by unfold inn; omega)]
    simp [h]
  · by_cases h2 : n < (ns.length : Int)
    · have h3 : 0 ≤ n := by omega
      have h4 : ¬ n ≥ (ns.length : Int) := by omega
      rw [if_pos (by unfold inn; omega)]
      simp [h, h2, h3, h4, memory_Memory_Loadfn1, memory_Memory_Loadfn1.body]
    · have h4 : n ≥ (ns.length : Int) := by omega
      rw [if_neg (by unfold inn; omega)]
      simp [h, h2, h4]
theorem store_ (n v : Int) (ns : List Int) (k : Bool → Bool → List Int → Option Bool) : memory_Memory_Storev2 n v true ns k = if inn n ns then k true true (ns.set n.toNat v) else k false true ns := by
  unfold memory_Memory_Storev2 memory_Memory_Storev2.body memory_Memory_atv5 memory_Memory_atv5.body
  simp only [size_]
  by_cases h : n < 0
  · rw [if_neg (by unfold inn; omega)]
    simp [h]
  · by_cases h2 : n < (ns.length : Int)
    · have h3 : 0 ≤ n := by omega
      have h4 : ¬ n ≥ (ns.length : Int) := by omega
      rw [if_pos (by unfold inn; omega)]
      simp [h, h2, h3, h4, memory_Memory_Storefn1, memory_Memory_Storefn1.body]
    · have h4 : n ≥ (ns.length : Int) := by omega
      rw [if_neg (by unfold inn; omega)]
      simp [h, h2, h4]
theorem item_ {n i : Int} {ns : List Int} (hl : ns.length ≤ 4194304) (hn : -9223372036854775808 ≤ n ∧ n ≤ 9223372036854775807) (k : Int → Int → Bool → List Int → Option Bool) :
    memory_Memory_Itemv2 n i true ns k = if inn n ns then (if i < 0 ∨ ns.getD n.toNat 0 ≤ i then k 0 1 true ns else if (ns.length : Int) - 1 - n ≤ i then k 0 2 true ns else k (n + 1 + i) 0 true ns) else k 0 2 true ns := by
  unfold memory_Memory_Itemv2 memory_Memory_Itemv2.body
  rw [load_]
  by_cases h : inn n ns
  · rw [if_pos h, if_pos h]
    unfold inn at h
    simp only [size_]
    rw [w64 (n := (ns.length : Int) - 1) (by omega) (by omega), w64 (n := (ns.length : Int) - 1 - n) (by omega) (by omega), w64 (n := n + 1) (by omega) (by omega)]
    by_cases h1 : i < 0
    · rw [if_pos (.inl h1)]
      simp [h1]
    · by_cases h2 : ns.getD n.toNat 0 ≤ i
      · rw [if_pos (.inr h2), cond_neg (b := !true) rfl, cond_pos (not_t h1), cond_pos (decide_eq_true h2)]
      · rw [if_neg (by rintro (h | h); exact h1 h; exact h2 h), cond_neg (b := !true) rfl, cond_pos (not_t h1), cond_neg (decide_eq_false h2)]
        by_cases h3 : (ns.length : Int) - 1 - n ≤ i
        · rw [if_pos h3, cond_pos (decide_eq_true h3)]
        · rw [if_neg h3, cond_neg (decide_eq_false h3), w64 (by omega) (by omega)]
  · rw [if_neg h, if_neg h]
    simp
theorem rload_ (n : Int) (ns : List Int) (k : Int → Bool → Option Bool) : ref38_Load ns n k = if inn n ns then k (ns.getD n.toNat 0) true else k 0 false := by
  unfold ref38_Load ref38_Load.body
  by_cases h : n < 0
  · rw [if_neg (by unfold inn; omega)]
    simp [h]
  · by_cases h2 : n < (ns.length : Int)
    · have h3 : 0 ≤ n := by omega
      have h4 : ¬ n ≥ (ns.length : Int) := by omega
      rw [if_pos (by unfold inn; omega)]
      simp [h, h2, h3, h4]
    · have h4 : n ≥ (ns.length : Int) := by omega
      rw [if_neg (by unfold inn; omega)]
      simp [h, h2, h4]
theorem rstore_ {ns : List Int} (hl : ns.length ≤ 4194304) (n v : Int) (k1 : List Int → Bool → Option Bool) (k2 : Bool → List Int → Option Bool) : ref38_Store ns n v k1 k2 = if inn n ns then k2 true (ns.set n.toNat v) else k1 ns false := by
  unfold ref38_Store ref38_Store.body
  rw [ble_t (by omega)]
  by_cases h : n < 0
  · rw [if_neg (by unfold inn; omega)]
    simp [h]
  · by_cases h2 : n < (ns.length : Int)
    · have h3 : 0 ≤ n := by omega
      have h4 : ¬ n ≥ (ns.length : Int) := by omega
      rw [if_pos (by unfold inn; omega)]
      simp [h, h2, h3, h4]
    · have h4 : n ≥ (ns.length : Int) := by omega
      rw [if_neg (by unfold inn; omega)]
      simp [h, h2, h4]
theorem grow_ {ns : List Int} (hl : ns.length ≤ 4194304) (n : Int) (k1 k2 : Int → Bool → Bool → List Int → Option Bool) : memory_Memory_Growv2 n true ns k1 k2 = if n < 1 ∨ n > 4194304 - (ns.length : Int) then k1 0 false true ns else k2 (ns.length : Int) true true (ns ++ List.replicate n.toNat 0) := by
  unfold memory_Memory_Growv2 memory_Memory_Growv2.body
  rw [w64 (n := 4194304 - (ns.length : Int)) (by omega) (by omega)]
  by_cases h : n < 1
  · simp [h]
  · by_cases h2 : n > 4194304 - (ns.length : Int)
    · rw [if_pos (.inr h2), cond_pos (by rfl), cond_pos (by simpa using h), cond_pos (by simpa using h2)]
    · rw [if_neg (by omega), cond_pos (by rfl), cond_pos (by simpa using h), cond_neg (by simpa using h2), ble_t (by omega), cond_pos (by simp; omega)]
theorem rgrowL (ns : List Int) (w : Int) (hw : w ≤ 4194304) (k : List Int → List Int → Option Bool) : ∀ (n : Nat) (i : Int) (acc : List Int), 0 ≤ i → i ≤ w → (w - i).toNat < n → acc.length ≤ 8388608 + i.toNat → ref38_Grow_L0 n ns w i acc k = k ns (acc ++ List.replicate (w - i).toNat 0)
  | 0, i, acc, _, _, h, _ => by omega
  | n + 1, i, acc, h0, h1, h2, h3 => by
    rw [ref38_Grow_L0]; unfold ref38_Grow_L0.body
    by_cases h : i < w
    · rw [cond_pos (by simpa using h), ble_t (by omega), cond_t, w64 (by omega) (by omega), rgrowL ns w hw k n (i + 1) (acc ++ [0]) (by omega) (by omega) (by omega) (by simp; omega)]
      rw [List.append_assoc]
      congr 2
      rw [show (w - i).toNat = (w - (i + 1)).toNat + 1 by omega, List.replicate_succ]
      rfl
    · rw [cond_neg (by simpa using h)]
      rw [show (w - i).toNat = 0 by omega]
      simp
theorem rgrow_ {ns : List Int} (hl : ns.length ≤ 4194304) (n : Int) (k1 : List Int → Int → Bool → Option Bool) (k2 : Int → Bool → List Int → Option Bool) : ref38_Grow ns n k1 k2 = if n < 1 ∨ n > 4194304 - (ns.length : Int) then k1 ns 0 false else k2 (ns.length : Int) true (ns ++ List.replicate n.toNat 0) := by
  unfold ref38_Grow ref38_Grow.body
  rw [w64 (n := 4194304 - (ns.length : Int)) (by omega) (by omega), ble_t (by omega)]
  by_cases h : n < 1
  · simp [h]
  · by_cases h2 : n > 4194304 - (ns.length : Int)
    · rw [if_pos (.inr h2), cond_pos (by simpa using h), cond_pos (by simpa using h2)]
    · rw [if_neg (by omega), cond_pos (by simpa using h), cond_neg (by simpa using h2), cond_t, rgrowL ns n (by omega) _ ROUNDS 0 ns (by omega) (by omega) (by unfold ROUNDS; omega) (by omega)]
      simp
theorem getCells {ns ys : List Int} {off : Nat} (h : off + ys.length ≤ ns.length) (j : Nat) : (setCells ns off ys)[j]? = if j < off then ns[j]? else if j < off + ys.length then ys[j - off]? else ns[j]? := by
  unfold setCells
  rw [List.append_assoc]
  by_cases h1 : j < off
  · rw [if_pos h1, List.getElem?_append_left (by rw [List.length_take]; omega), List.getElem?_take, if_pos h1]
  · rw [if_neg h1, List.getElem?_append_right (by rw [List.length_take]; omega), List.length_take, Nat.min_eq_left (by omega)]
    by_cases h2 : j < off + ys.length
    · rw [if_pos h2, List.getElem?_append_left (by omega)]
    · rw [if_neg h2, List.getElem?_append_right (by omega), List.getElem?_drop]
      congr 1
      omega
theorem lenCells {ns ys : List Int} {off : Nat} (h : off + ys.length ≤ ns.length) : (setCells ns off ys).length = ns.length := by
  unfold setCells
  simp only [List.length_append, List.length_take, List.length_drop]
  omega
theorem cellsStep {ns : List Int} {t f i : Nat} (h1 : t + i < ns.length) (h2 : f + i < ns.length) : (setCells ns t ((ns.drop f).take i)).set (t + i) (ns.getD (f + i) 0) = setCells ns t ((ns.drop f).take (i + 1)) := by
  have l1 : ((ns.drop f).take i).length = i := by rw [List.length_take, List.length_drop]; omega
  have l2 : ((ns.drop f).take (i + 1)).length = i + 1 := by rw [List.length_take, List.length_drop]; omega
  apply List.ext_getElem?
  intro j
  rw [List.getElem?_set, lenCells (by rw [l1]; omega), getCells (by rw [l1]; omega), getCells (by rw [l2]; omega), l1, l2]
  by_cases g : t + i = j
  · subst g
    rw [if_pos rfl, if_pos h1, if_neg (by omega), if_pos (by omega), List.getElem?_take, if_pos (by omega), List.getElem?_drop, List.getD_eq_getElem?_getD, show f + (t + i - t) = f + i by omega]
    rw [List.getElem?_eq_getElem h2]
    rfl
  · rw [if_neg g]
    by_cases g1 : j < t
    · rw [if_pos g1, if_pos g1]
    · rw [if_neg g1, if_neg g1]
      by_cases g2 : j < t + i
      · rw [if_pos g2, if_pos (by omega), List.getElem?_take, List.getElem?_take, if_pos (by omega), if_pos (by omega)]
      · rw [if_neg g2, if_neg (by omega)]
theorem rcopyL {ns : List Int} (hl : ns.length ≤ 4194304) {t f w : Int} (ht : 0 ≤ t) (hf : 0 ≤ f) (h1 : t + w ≤ (ns.length : Int)) (h2 : f + w ≤ (ns.length : Int)) (k : List Int → Option Bool) : ∀ (n : Nat) (i : Int), 0 ≤ i → i ≤ w → (w - i).toNat < n →
    ref38_Copy_L0 n ns t f w i (setCells ns t.toNat ((ns.drop f.toNat).take i.toNat)) k = k (setCells ns t.toNat ((ns.drop f.toNat).take w.toNat))
  | 0, i, _, _, h => by omega
  | n + 1, i, h3, h4, h5 => by
    rw [ref38_Copy_L0]; unfold ref38_Copy_L0.body
    by_cases h : i < w
    · have l1 : ((ns.drop f.toNat).take i.toNat).length = i.toNat := by rw [List.length_take, List.length_drop]; omega
      have l2 : (setCells ns t.toNat ((ns.drop f.toNat).take i.toNat)).length = ns.length := lenCells (by rw [l1]; omega)
      rw [cond_pos (by simpa using h), w64 (n := f + i) (by omega) (by omega), w64 (n := t + i) (by omega) (by omega), w64 (n := i + 1) (by omega) (by omega), cond_pos (by simp; omega), l2, cond_pos (by simp; omega)]
      rw [show (t + i).toNat = t.toNat + i.toNat by omega, show (f + i).toNat = f.toNat + i.toNat by omega, cellsStep (by omega) (by omega), show i.toNat + 1 = (i + 1).toNat by omega]
      exact rcopyL hl ht hf h1 h2 k n (i + 1) (by omega) (by omega) (by omega)
    · rw [cond_neg (by simpa using h), show i = w by omega]
def holdsAt (ns : List Int) (a w : Int) : Prop := 0 ≤ a ∧ a ≤ (ns.length : Int) ∧ w ≤ (ns.length : Int) - a
instance (ns : List Int) (a w : Int) : Decidable (holdsAt ns a w) := by unfold holdsAt; infer_instance
theorem within_ {ns : List Int} (hl : ns.length ≤ 4194304) (a w : Int) (k : Bool → Option Bool) : ref38_within ns a w k = k (decide (holdsAt ns a w)) := by
  unfold ref38_within ref38_within.body holdsAt
  by_cases h1 : a ≥ 0
  · by_cases h2 : a ≤ (ns.length : Int)
    · rw [w64 (by omega) (by omega), cond_pos (by simpa using h1), cond_pos (by simpa using h2)]
      congr 1
      have h1' : 0 ≤ a := h1
      simp [h1', h2]
    · rw [cond_pos (by simpa using h1), cond_neg (by simpa using h2)]
      congr 1
      simp [h2]
  · have h1' : ¬ 0 ≤ a := h1
    rw [cond_neg (by simpa using h1)]
    congr 1
    simp [h1']
theorem copyf_ {ns : List Int} (hl : ns.length ≤ 4194304) (a w : Int) (k : Bool → Bool → List Int → Int → Option Bool) : memory_Memory_Copyfn1v1 a true ns w k = k (decide (holdsAt ns a w)) true ns w := by
  unfold memory_Memory_Copyfn1v1 memory_Memory_Copyfn1v1.body holdsAt
  by_cases h1 : a ≥ 0
  · by_cases h2 : a ≤ (ns.length : Int)
    · rw [w64 (by omega) (by omega), cond_pos (by simpa using h1), cond_pos (by simpa using h2)]
      congr 1
      have h1' : 0 ≤ a := h1
      simp [h1', h2]
    · rw [cond_pos (by simpa using h1), cond_neg (by simpa using h2)]
      congr 1
      simp [h2]
  · have h1' : ¬ 0 ≤ a := h1
    rw [cond_neg (by simpa using h1)]
    congr 1
    simp [h1']
theorem rcopy_ {ns : List Int} (hl : ns.length ≤ 4194304) (t f w : Int) (k1 : List Int → Bool → Option Bool) (k2 : Bool → List Int → Option Bool) : ref38_Copy ns t f w k1 k2 = if 0 ≤ w ∧ holdsAt ns t w ∧ holdsAt ns f w then k2 true (setCells ns t.toNat ((ns.drop f.toNat).take w.toNat)) else k1 ns false := by
  unfold ref38_Copy ref38_Copy.body
  by_cases h : w < 0
  · rw [cond_neg (by simpa using h), if_neg (by omega)]
  · rw [cond_pos (by simpa using h), within_ hl]
    by_cases h1 : holdsAt ns t w
    · rw [cond_pos (by simpa using h1), within_ hl]
      by_cases h2 : holdsAt ns f w
      · rw [cond_neg (by simpa using h2), ble_t (by omega), cond_t, if_pos ⟨by omega, h1, h2⟩]
        have h1' := h1
        have h2' := h2
        unfold holdsAt at h1' h2'
        have := rcopyL hl (t := t) (f := f) (w := w) (by omega) (by omega) (by omega) (by omega) (fun ns366 => k2 true ns366) ROUNDS 0 (by omega) (by omega) (by unfold ROUNDS; omega)
        simp only [Int.toNat_zero, List.take_zero] at this
        rw [← this]
        congr 1
        unfold setCells
        simp
      · rw [cond_pos (by simpa using h2), if_neg (fun ⟨_, _, h3⟩ => h2 h3)]
    · rw [cond_neg (by simpa using h1), if_neg (fun ⟨_, h3, _⟩ => h1 h3)]
theorem copy_ {ns : List Int} (hl : ns.length ≤ 4194304) (t f w : Int) (k : Bool → Bool → List Int → Option Bool) : memory_Memory_Copyv2 t f w true ns k = if 0 ≤ w ∧ holdsAt ns t w ∧ holdsAt ns f w then k true true (setCells ns t.toNat ((ns.drop f.toNat).take w.toNat)) else k false true ns := by
  unfold memory_Memory_Copyv2 memory_Memory_Copyv2.body
  rw [cond_pos (by rfl)]
  by_cases h : w < 0
  · rw [cond_neg (by simpa using h), if_neg (by omega)]
  · rw [cond_pos (by simpa using h), copyf_ hl]
    by_cases h1 : holdsAt ns t w
    · rw [cond_pos (by simpa using h1), copyf_ hl]
      by_cases h2 : holdsAt ns f w
      · have h1' := h1
        have h2' := h2
        unfold holdsAt at h1' h2'
        rw [cond_neg (by simpa using h2), w64 (n := f + w) (by omega) (by omega), cond_pos (by simp; omega), cond_pos (by simp; omega), if_pos ⟨by omega, h1, h2⟩]
        congr 2
        rw [show f + w - f = w by omega, List.take_take, Nat.min_eq_right (by omega)]
      · rw [cond_pos (by simpa using h2), if_neg (fun ⟨_, _, h3⟩ => h2 h3)]
    · rw [cond_neg (by simpa using h1), if_neg (fun ⟨_, h3, _⟩ => h1 h3)]
theorem ritem_ {n i : Int} {ns : List Int} (hl : ns.length ≤ 4194304) (hn : -9223372036854775808 ≤ n ∧ n ≤ 9223372036854775807) (k : Int → Int → Option Bool) :
    ref38_Item ns n i k = if inn n ns then (if i < 0 ∨ ns.getD n.toNat 0 ≤ i then k 0 1 else if (ns.length : Int) - 1 - n ≤ i then k 0 2 else k (n + 1 + i) 0) else k 0 2 := by
  unfold ref38_Item ref38_Item.body
  rw [rload_]
  by_cases h : inn n ns
  · rw [if_pos h, if_pos h]
    unfold inn at h
    rw [w64 (n := (ns.length : Int) - n) (by omega) (by omega), w64 (n := (ns.length : Int) - n - 1) (by omega) (by omega), w64 (n := n + 1) (by omega) (by omega)]
    by_cases h1 : i < 0
    · rw [if_pos (.inl h1)]
      simp [h1]
    · by_cases h2 : ns.getD n.toNat 0 ≤ i
      · rw [if_pos (.inr h2), cond_neg (b := !true) rfl, cond_pos (not_t h1), cond_pos (decide_eq_true h2)]
      · rw [if_neg (by rintro (h | h); exact h1 h; exact h2 h), cond_neg (b := !true) rfl, cond_pos (not_t h1), cond_neg (decide_eq_false h2)]
        by_cases h3 : (ns.length : Int) - 1 - n ≤ i
        · rw [if_pos h3, cond_pos (decide_eq_true (by omega))]
        · rw [if_neg h3, cond_neg (decide_eq_false (by omega)), w64 (by omega) (by omega)]
  · rw [if_neg h, if_neg h]
    simp
abbrev Mv := Int × Int × Int × Int × Int × Unit
def dflt : Mv := (0, 0, 0, 0, 0, ())
theorem L0_ (ts : List Mv) (hts : ts.length ≤ 60) (hok : ∀ x ∈ ts, -9223372036854775808 ≤ x.2.1 ∧ x.2.1 ≤ 9223372036854775807) (k2 : List Int → Bool → List Int → Option Bool) (hk : ∀ w : List Int, w.length ≤ 18200 → k2 w true w = some true) :
    ∀ (n : Nat) (i : Int) (w : List Int), 0 ≤ i → i ≤ (ts.length : Int) → ((ts.length : Int) - i).toNat < n → w.length ≤ 200 + 300 * i.toNat → law38_MemoryPlays_L0 n ts w i true w (fun y => some y) k2 = some true
  | 0, i, w, _, _, h, _ => by omega
  | n + 1, i, w, h0, h1, h2, h3 => by
    have ih := L0_ ts hts hok k2 hk n
    rw [law38_MemoryPlays_L0]; unfold law38_MemoryPlays_L0.body
    by_cases h : i < (ts.length : Int)
    · rw [cond_pos (by simpa using h), cond_pos (by simp; omega), w64 (n := i + 1) (by omega) (by omega)]
      have go : ∀ w' : List Int, w'.length ≤ w.length + 300 → law38_MemoryPlays_L0 n ts w' (i + 1) true w' (fun y => some y) k2 = some true := fun w' hw' => ih (i + 1) w' (by omega) (by omega) (by omega) (by omega)
      have hx : List.getD ts i.toNat ((0 : Int), ((0 : Int), ((0 : Int), ((0 : Int), ((0 : Int), ()))))) ∈ ts := by
        rw [List.getD_eq_getElem?_getD, List.getElem?_eq_getElem (by omega)]
        exact List.getElem_mem _
      have hxo := hok _ hx
      generalize List.getD ts i.toNat ((0 : Int), ((0 : Int), ((0 : Int), ((0 : Int), ((0 : Int), ()))))) = x at hxo ⊢
      have hwl : w.length ≤ 4194304 := by omega
      by_cases c0 : x.1 = 0
      · rw [cond_pos (by simpa using c0), load_]
        by_cases g : inn x.2.1 w
        · rw [if_pos g, rload_, if_pos g]
          simp [size_, go w (by omega)]
        · rw [if_neg g, rload_, if_neg g]
          simp [size_, go w (by omega)]
      · rw [cond_neg (by simpa using c0)]
        by_cases c1 : x.1 = 1
        · rw [cond_pos (by simpa using c1), rstore_ hwl]
          by_cases g : inn x.2.1 w
          · rw [if_pos g, store_, if_pos g]
            simp [size_, go (w.set x.2.1.toNat x.2.2.2.2.1) (by simp)]
          · rw [if_neg g, store_, if_neg g]
            simp [size_, go w (by omega)]
        · rw [cond_neg (by simpa using c1)]
          by_cases c2 : x.1 = 2
          · rw [cond_pos (by simpa using c2)]
            by_cases c3 : x.2.1 > 300
            · rw [cond_pos (by simpa using c3)]
              by_cases c4 : x.2.1 ≤ 4194304
              · rw [cond_pos (by simpa using c4)]
                exact go w (by omega)
              · rw [cond_neg (by simpa using c4), grow_ hwl, if_pos (by omega), rgrow_ hwl, if_pos (by omega)]
                simp [size_, go w (by omega)]
            · rw [cond_neg (by simpa using c3), grow_ hwl]
              by_cases g : x.2.1 < 1 ∨ x.2.1 > 4194304 - (w.length : Int)
              · rw [if_pos g, rgrow_ hwl, if_pos g]
                simp [size_, go w (by omega)]
              · rw [if_neg g, rgrow_ hwl, if_neg g]
                simp [size_, go (w ++ List.replicate x.2.1.toNat 0) (by simp; omega)]
          · rw [cond_neg (by simpa using c2)]
            by_cases c3 : x.1 = 3
            · rw [cond_pos (by simpa using c3), rcopy_ hwl]
              by_cases g : 0 ≤ x.2.2.2.1 ∧ holdsAt w x.2.1 x.2.2.2.1 ∧ holdsAt w x.2.2.1 x.2.2.2.1
              · rw [if_pos g, copy_ hwl, if_pos g]
                have hlc : (setCells w x.2.1.toNat ((w.drop x.2.2.1.toNat).take x.2.2.2.1.toNat)).length = w.length := by
                  obtain ⟨g1, g2, g3⟩ := g
                  unfold holdsAt at g2 g3
                  refine lenCells ?_
                  rw [List.length_take, List.length_drop]
                  omega
                simp [size_, go _ (show (setCells w x.2.1.toNat ((w.drop x.2.2.1.toNat).take x.2.2.2.1.toNat)).length ≤ w.length + 300 by omega)]
              · rw [if_neg g, copy_ hwl, if_neg g]
                simp [size_, go w (by omega)]
            · rw [cond_neg (by simpa using c3), item_ hwl hxo]
              by_cases g : inn x.2.1 w
              · rw [if_pos g]
                by_cases g1 : x.2.2.2.2.1 < 0 ∨ w.getD x.2.1.toNat 0 ≤ x.2.2.2.2.1
                · rw [if_pos g1, ritem_ hwl hxo, if_pos g, if_pos g1]
                  simp [size_, go w (by omega)]
                · rw [if_neg g1]
                  by_cases g2 : (w.length : Int) - 1 - x.2.1 ≤ x.2.2.2.2.1
                  · rw [if_pos g2, ritem_ hwl hxo, if_pos g, if_neg g1, if_pos g2]
                    simp [size_, go w (by omega)]
                  · rw [if_neg g2, ritem_ hwl hxo, if_pos g, if_neg g1, if_neg g2]
                    simp [size_, go w (by omega)]
              · rw [if_neg g, ritem_ hwl hxo, if_neg g]
                simp [size_, go w (by omega)]
    · rw [cond_neg (by simpa using h)]
      exact hk w (by omega)
theorem L3_ (w : List Int) (hw : w.length ≤ 18200) (k2 : Option Bool) (hk : k2 = some true) : ∀ (n : Nat) (i : Int), -1 ≤ i → i ≤ (w.length : Int) + 1 → ((w.length : Int) + 1 - i).toNat < n → law38_MemoryPlays_L3 n w i true w (fun y => some y) k2 = some true
  | 0, i, _, _, h => by omega
  | n + 1, i, h0, h1, h2 => by
    rw [law38_MemoryPlays_L3]; unfold law38_MemoryPlays_L3.body
    by_cases h : i ≤ (w.length : Int)
    · rw [cond_pos (by simpa using h), w64 (n := i + 1) (by omega) (by omega), load_]
      have ih := L3_ w hw k2 hk n (i + 1) (by omega) (by omega) (by omega)
      by_cases g : inn i w
      · rw [if_pos g, rload_, if_pos g]
        simp [ih]
      · rw [if_neg g, rload_, if_neg g]
        simp [ih]
    · rw [cond_neg (by simpa using h)]
      exact hk
theorem holds (ns : List Int) (ts : List Mv) (h0 : okD (.sl 2 (.int .i64)) ns) (h1 : okD (.sl 28 (.st [.int .i64, .int .i64, .int .i64, .int .i64, .int .i64])) ts) : law38_MemoryPlays ns ts (fun y => some y) = some true := by
  unfold law38_MemoryPlays law38_MemoryPlays.body law38_known
  by_cases hl : (ns.length : Int) > 200
  · rw [cond_neg (by simpa using hl)]
  · rw [cond_pos (by simpa using hl)]
    by_cases hl2 : (ts.length : Int) > 60
    · rw [cond_pos (by simpa using hl2)]
    · rw [cond_neg (by simpa using hl2)]
      unfold memory_Newv1 memory_Newv1.body
      rw [clone_ (by omega)]
      dsimp only
      rw [ble_t (by omega), cond_t]
      refine L0_ ts (by omega) (fun x hx => ?_) _ (fun w hw => ?_) ROUNDS 0 ns (by omega) (by omega) (by unfold ROUNDS; omega) (by omega)
      · exact ok64 (okDs_cons.1 (okDs_cons.1 (okD_st.1 ((okD_sl.1 h1).2 x hx))).2).1
      · exact L3_ w hw _ rfl ROUNDS (-1) (by omega) (by omega) (by unfold ROUNDS; omega)

end Go.Proofs.Ytbnkdfoolfpllaa.memoryPlays
