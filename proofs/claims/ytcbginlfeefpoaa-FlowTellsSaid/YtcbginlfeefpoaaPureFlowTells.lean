/- What the plain functions answer: the law, without program or memory. -/
import Derived.Test.YtcbginlfeefpoaaMP
import Derived.IntWalk
import Derived.Laws.Strings
namespace Go.Proofs.Ytcbginlfeefpoaa.flowTells
open Go.AX Go.Proofs.Ytcbginlfeefpoaa.p
set_option linter.unusedVariables false
set_option linter.unusedSimpArgs false
theorem cond_ite (b : Bool) (x y : Option Bool) : cond_ b x y = if b = true then x else y := by cases b <;> rfl
@[simp] theorem cond_t (x y : Option Bool) : cond_ true x y = x := (cond_ite true x y).trans (if_pos rfl)
@[simp] theorem cond_f (x y : Option Bool) : cond_ false x y = y := (cond_ite false x y).trans (if_neg (by decide))
theorem cond_pos {b : Bool} {x y : Option Bool} (h : b = true) : cond_ b x y = x := by rw [h]; rfl
theorem cond_neg {b : Bool} {x y : Option Bool} (h : b = false) : cond_ b x y = y := by rw [h]; rfl
@[simp] theorem meet_self (x : Option Bool) : meet x x = x := by
  cases x with
  | none => rfl
  | some a => simp [meet]
theorem w64 {n : Int} (h1 : -9223372036854775808 ≤ n) (h2 : n ≤ 9223372036854775807) : IntKind.wrap .i64 n = n := IntWalk.i64_in n ⟨h1, h2⟩
theorem w8 {n : Int} (h1 : 0 ≤ n) (h2 : n ≤ 255) : IntKind.wrap .u8 n = n := IntWalk.u8_in n ⟨h1, h2⟩
theorem wu64 {n : Int} (h1 : 0 ≤ n) (h2 : n ≤ 18446744073709551615) : IntKind.wrap .u64 n = n := IntWalk.u64_in n ⟨h1, h2⟩
theorem ble_t {a b : Nat} (h : a ≤ b) : Nat.ble a b = true := by rw [Nat.ble_eq]; exact h
theorem ok64 {n : Int} (h : okD (.int .i64) n) : -9223372036854775808 ≤ n ∧ n ≤ 9223372036854775807 := by
  have := okD_int.1 h
  simpa [Lit.wf, IntKind.min, IntKind.max, IntKind.bits, IntKind.signed, i_] using this
theorem not_t {p : Prop} [Decidable p] (h : ¬p) : (!decide p) = true := by simp [h]
theorem not_f {p : Prop} [Decidable p] (h : p) : (!decide p) = false := by simp [h]
theorem cond_congr {b c : Bool} (h : b = c) (x y : Option Bool) : cond_ b x y = cond_ c x y := by rw [h]
attribute [local congr] cond_congr
theorem dt {p : Prop} [Decidable p] (h : p) : decide p = true := decide_eq_true h
theorem df {p : Prop} [Decidable p] (h : ¬p) : decide p = false := decide_eq_false h
theorem ieqt {a b : Int} (h : a = b) : (a == b) = true := by simp [h]
theorem ieqf {a b : Int} (h : a ≠ b) : (a == b) = false := by simp [h]
theorem inet {a b : Int} (h : a ≠ b) : (a != b) = true := by simp [h]
theorem inef {a b : Int} (h : a = b) : (a != b) = false := by simp [h]
theorem ble_f {a b : Nat} (h : b < a) : Nat.ble a b = false := by
  cases hb : Nat.ble a b with
  | false => rfl
  | true => rw [Nat.ble_eq] at hb; omega
theorem rounds_ : ∃ R, ROUNDS = R ∧ 1000000000 ≤ R := ⟨ROUNDS, rfl, by unfold ROUNDS; omega⟩
theorem dTrue {i : Decidable True} : decide True = true := dt trivial
theorem dFalse {i : Decidable False} : decide False = false := df fun h => h
theorem if_iff {α : Type} {p q : Prop} [Decidable p] [Decidable q] (h : p ↔ q) (a b : α) : (if p then a else b) = (if q then a else b) := by
  by_cases hp : p
  · rw [if_pos hp, if_pos (h.1 hp)]
  · rw [if_neg hp, if_neg (fun g => hp (h.2 g))]
theorem rb : 1000000000 ≤ ROUNDS := by unfold ROUNDS; omega
abbrev O := Option Bool
/-- it ends: with one of some, whatever comes behind -/
def T {ι : Type} (P : ι → Prop) (F : (ι → O) → O) : Prop := ∃ i, P i ∧ ∀ K, F K = K i
variable {ι : Type} {P : ι → Prop}
theorem T.leaf {i : ι} (h : P i) : T P (fun K => K i) := ⟨i, h, fun _ => rfl⟩
theorem tc {b : Bool} {F G : (ι → O) → O} (h1 : b = true → T P F) (h2 : b = false → T P G) : T P (fun K => cond_ b (F K) (G K)) := by
  cases b with
  | true => simp only [cond_t]; exact h1 rfl
  | false => simp only [cond_f]; exact h2 rfl
theorem tct {F G : (ι → O) → O} (h : T P F) : T P (fun K => cond_ true (F K) (G K)) := by simp only [cond_t]; exact h
theorem tcf {F G : (ι → O) → O} (h : T P G) : T P (fun K => cond_ false (F K) (G K)) := by simp only [cond_f]; exact h
theorem tcn {b : Bool} {F G : (ι → O) → O} (h : T P (fun K => cond_ b (G K) (F K))) : T P (fun K => cond_ (!b) (F K) (G K)) := by
  cases b with
  | true => simpa using h
  | false => simpa using h
theorem tcd {p : Prop} [Decidable p] {F G : (ι → O) → O} (h1 : p → T P F) (h2 : ¬p → T P G) : T P (fun K => cond_ (decide p) (F K) (G K)) := tc (fun h => h1 (of_decide_eq_true h)) (fun h => h2 (of_decide_eq_false h))
theorem tce {a b : Int} {F G : (ι → O) → O} (h1 : a = b → T P F) (h2 : a ≠ b → T P G) : T P (fun K => cond_ (a == b) (F K) (G K)) := tc (fun h => h1 (by simpa using h)) (fun h => h2 (by simpa using h))
theorem tcne {a b : Int} {F G : (ι → O) → O} (h1 : a ≠ b → T P F) (h2 : a = b → T P G) : T P (fun K => cond_ (a != b) (F K) (G K)) := tc (fun h => h1 (by simpa using h)) (fun h => h2 (by simpa using h))
theorem tn {b : Bool} {F : (ι → O) → O} (h : b = true) (h1 : T P F) : T P (fun K => cond_ b (F K) none) := by rw [h]; exact tct h1
theorem tna {p q : Prop} [Decidable p] [Decidable q] {F : (ι → O) → O} (hp : p) (hq : q) (h1 : T P F) : T P (fun K => cond_ (decide p && decide q) (F K) none) := tn (by simp [hp, hq]) h1
theorem tnb {a b : Nat} {F : (ι → O) → O} (h : a ≤ b) (h1 : T P F) : T P (fun K => cond_ (Nat.ble a b) (F K) none) := tn (ble_t h) h1
theorem T.use {F : (ι → O) → O} (h : T P F) {K : ι → O} (hK : ∀ i, P i → K i = some true) : F K = some true := by
  obtain ⟨i, hi, e⟩ := h
  rw [e]; exact hK i hi
theorem wr64 (n : Int) : (-9223372036854775808 ≤ n ∧ n ≤ 9223372036854775807 → IntKind.wrap .i64 n = n) := fun h => w64 h.1 h.2
theorem T.eq {F G : (ι → O) → O} (h : T P G) (e : ∀ K, F K = G K) : T P F := by
  obtain ⟨i, p, q⟩ := h
  exact ⟨i, p, fun K => (e K).trans (q K)⟩
attribute [local irreducible] ROUNDS
theorem seqt {a b : ByteArray} (h : a = b) : (a.toList == b.toList) = true := by rw [h]; exact beq_self_eq_true _
theorem seqf {a b : ByteArray} (h : a ≠ b) : (a.toList == b.toList) = false := by
  rw [ByteArray.toList_eq, ByteArray.toList_eq, beq_eq_false_iff_ne]
  intro he
  apply h
  cases a with | mk a =>
  cases b with | mk b =>
  exact congrArg ByteArray.mk (Array.toList_inj.1 he)
theorem bytes_inj : ∀ {a b : List Int}, (∀ x ∈ a, 0 ≤ x ∧ x < 256) → (∀ x ∈ b, 0 ≤ x ∧ x < 256) → a.map (fun n => UInt8.ofNat n.toNat) = b.map (fun n => UInt8.ofNat n.toNat) → a = b
  | [], [], _, _, _ => rfl
  | [], _ :: _, _, _, h => by simp at h
  | _ :: _, [], _, _, h => by simp at h
  | x :: a, y :: b, ha, hb, h => by
    simp only [List.map_cons, List.cons.injEq] at h
    obtain ⟨h1, h2⟩ := h
    have hx := ha x List.mem_cons_self
    have hy := hb y List.mem_cons_self
    have e : x = y := by
      have := congrArg UInt8.toNat h1
      simp only [UInt8.toNat_ofNat'] at this
      omega
    rw [e, bytes_inj (fun z hz => ha z (List.mem_cons_of_mem _ hz)) (fun z hz => hb z (List.mem_cons_of_mem _ hz)) h2]
theorem strOf_inj {a b : List Int} (ha : ∀ x ∈ a, 0 ≤ x ∧ x < 256) (hb : ∀ x ∈ b, 0 ≤ x ∧ x < 256) (h : strOf a = strOf b) : a = b := by
  refine bytes_inj ha hb ?_
  have h := congrArg (fun s : ByteArray => s.data.toList) h
  simpa [strOf] using h
/-! what is reached -/
def okN (g : List (List Int)) (x : Int) : Prop := 0 ≤ x ∧ x < (g.length : Int)
def Rch (g : List (List Int)) (l : List Int) (v : Int) : Prop := ∀ S : Int → Prop, (∀ x ∈ l, okN g x → S x) → (∀ u, S u → ∀ v ∈ g.getD u.toNat [], okN g v → S v) → S v
theorem Rch.base {g : List (List Int)} {l : List Int} {x : Int} (h : x ∈ l) (hx : okN g x) : Rch g l x := fun S h1 _ => h1 x h hx
theorem Rch.step {g : List (List Int)} {l : List Int} {u v : Int} (h : Rch g l u) (hv : v ∈ g.getD u.toNat []) (hx : okN g v) : Rch g l v := fun S h1 h2 => h2 u (h S h1 h2) v hv hx
theorem Rch.mono {g : List (List Int)} {l l' : List Int} (hs : ∀ x ∈ l, x ∈ l') {v : Int} (h : Rch g l v) : Rch g l' v := fun S h1 h2 => h S (fun x hx => h1 x (hs x hx)) h2
theorem Rch.join {g : List (List Int)} {l l' : List Int} {v : Int} : Rch g (l ++ l') v ↔ Rch g l v ∨ Rch g l' v := by
  refine ⟨fun h => h (fun v => Rch g l v ∨ Rch g l' v) (fun x hx hk => ?_) (fun u hu v hv hk => ?_), fun h => h.elim (Rch.mono fun x hx => List.mem_append_left _ hx) (Rch.mono fun x hx => List.mem_append_right _ hx)⟩
  · exact (List.mem_append.1 hx).elim (fun h => .inl (Rch.base h hk)) (fun h => .inr (Rch.base h hk))
  · exact hu.elim (fun h => .inl (h.step hv hk)) (fun h => .inr (h.step hv hk))
structure Inv (g : List (List Int)) (l : List Int) (out : List Bool) (wait : List Int) : Prop where
  len : out.length = g.length
  wt : ∀ x ∈ wait, okN g x ∧ Rch g l x
  snd : ∀ v : Nat, out.getD v false = true → Rch g l (v : Int)
  cls : ∀ u : Nat, out.getD u false = true → ∀ v ∈ g.getD u [], okN g v → out.getD v.toNat false = true ∨ v ∈ wait
  bas : ∀ x ∈ l, okN g x → out.getD x.toNat false = true ∨ x ∈ wait
/-- a row of truths tells of what is reached -/
def Told (g : List (List Int)) (l : List Int) (out : List Bool) : Prop := out.length = g.length ∧ ∀ v : Nat, v < g.length → (out.getD v false = true ↔ Rch g l (v : Int))
theorem Inv.told {g : List (List Int)} {l : List Int} {out : List Bool} (h : Inv g l out []) : Told g l out := by
  refine ⟨h.len, fun v hv => ⟨h.snd v, fun hr => ?_⟩⟩
  have := hr (fun x => okN g x ∧ out.getD x.toNat false = true) (fun x hx hk => ⟨hk, (h.bas x hx hk).elim (fun h => h) (fun h => by cases h)⟩)
    (fun u hu w hw hk => ⟨hk, (h.cls u.toNat hu.2 w hw hk).elim (fun h => h) (fun h => by cases h)⟩)
  rw [Int.toNat_natCast] at this
  exact this.2
theorem Inv.skip {g : List (List Int)} {l : List Int} {out : List Bool} {w : List Int} {a : Int} (h : Inv g l out (w ++ [a])) (ha : out.getD a.toNat false = true) : Inv g l out w := by
  have fix : ∀ {v : Int}, (out.getD v.toNat false = true ∨ v ∈ w ++ [a]) → out.getD v.toNat false = true ∨ v ∈ w := fun hv => hv.elim .inl fun hv => (List.mem_append.1 hv).elim .inr fun hv => by
    rw [List.mem_singleton.1 hv]; exact .inl ha
  exact ⟨h.len, fun x hx => h.wt x (List.mem_append_left _ hx), h.snd, fun u hu v hv hk => fix (h.cls u hu v hv hk), fun x hx hk => fix (h.bas x hx hk)⟩
def vld (n : Int) (row : List Int) : List Int := row.filter fun x => decide (0 ≤ x) && decide (x < n)
theorem mem_vld {n : Int} {row : List Int} {x : Int} : x ∈ vld n row ↔ x ∈ row ∧ 0 ≤ x ∧ x < n := by
  unfold vld
  rw [List.mem_filter, Bool.and_eq_true, decide_eq_true_eq, decide_eq_true_eq]
theorem set_getD {α : Type} {l : List α} {n i : Nat} {x d : α} : (l.set n x).getD i d = if n = i ∧ i < l.length then x else l.getD i d := by
  rw [List.getD_eq_getElem?_getD, List.getD_eq_getElem?_getD, List.getElem?_set]
  by_cases h : n = i
  · subst h
    by_cases h2 : n < l.length
    · simp [h2]
    · simp [h2]
  · simp [h]
theorem Inv.mark {g : List (List Int)} {l : List Int} {out : List Bool} {w : List Int} {a : Int} (h : Inv g l out (w ++ [a])) : Inv g l (out.set a.toNat true) (w ++ vld (g.length : Int) (g.getD a.toNat [])) := by
  obtain ⟨ha, hra⟩ := h.wt a (List.mem_append_right _ (List.mem_singleton.2 rfl))
  have h1 : 0 ≤ a := ha.1
  have h2 : a < (g.length : Int) := ha.2
  have hl := h.len
  have up : ∀ {v : Nat}, out.getD v false = true → (out.set a.toNat true).getD v false = true := fun hv => by
    rw [set_getD]
    split
    · rfl
    · exact hv
  have me : (out.set a.toNat true).getD a.toNat false = true := by rw [set_getD, if_pos ⟨rfl, by omega⟩]
  have fix : ∀ {v : Int}, (out.getD v.toNat false = true ∨ v ∈ w ++ [a]) → (out.set a.toNat true).getD v.toNat false = true ∨ v ∈ w ++ vld (g.length : Int) (g.getD a.toNat []) := fun hv => hv.elim (fun h => .inl (up h)) fun hv => (List.mem_append.1 hv).elim (fun h => .inr (List.mem_append_left _ h)) fun hv => by
    rw [List.mem_singleton.1 hv]; exact .inl me
  refine ⟨by rw [List.length_set]; exact hl, fun x hx => ?_, fun v hv => ?_, fun u hu v hv hk => ?_, fun x hx hk => fix (h.bas x hx hk)⟩
  · rcases List.mem_append.1 hx with hx | hx
    · exact h.wt x (List.mem_append_left _ hx)
    · obtain ⟨q1, q2⟩ := mem_vld.1 hx
      exact ⟨q2, hra.step q1 q2⟩
  · rw [set_getD] at hv
    split at hv
    · rename_i he
      rw [← he.1, Int.toNat_of_nonneg h1]; exact hra
    · exact h.snd v hv
  · rw [set_getD] at hu
    split at hu
    · rename_i he
      rw [← he.1] at hv
      exact .inr (List.mem_append_right _ (mem_vld.2 ⟨hv, hk⟩))
    · exact fix (h.cls u hu v hv hk)
theorem Inv.start {g : List (List Int)} {l : List Int} {out : List Bool} (hl : out.length = g.length) (ho : ∀ v : Nat, out.getD v false = false) : Inv g l out (vld (g.length : Int) l) :=
  ⟨hl, fun x hx => ⟨(mem_vld.1 hx).2, Rch.base (mem_vld.1 hx).1 (mem_vld.1 hx).2⟩, (fun v hv => by rw [ho v] at hv; cases hv), (fun u hu => by rw [ho u] at hu; cases hu), fun x hx hk => .inr (mem_vld.2 ⟨hx, hk⟩)⟩
/-- how many are not yet reached -/
def cf : List Bool → Nat
  | [] => 0
  | b :: r => (if b = true then 0 else 1) + cf r
theorem cf_le : ∀ l : List Bool, cf l ≤ l.length
  | [] => Nat.le_refl _
  | b :: r => by
    have := cf_le r
    rw [cf, List.length_cons]
    split <;> omega
theorem cf_set : ∀ {l : List Bool} {i : Nat}, i < l.length → l.getD i false = false → cf (l.set i true) + 1 = cf l
  | [], i, h, _ => by cases h
  | b :: r, 0, _, hb => by
    have hb : b = false := hb
    rw [List.set_cons_zero, cf, cf, hb]
    simp; omega
  | b :: r, i + 1, h, hb => by
    have ih := cf_set (l := r) (i := i) (by simpa using h) (by simpa using hb)
    rw [List.set_cons_succ, cf, cf]
    omega
theorem last_split {w : List Int} (h : w ≠ []) : w = w.take (w.length - 1) ++ [w.getD (w.length - 1) 0] := by
  have h1 := List.dropLast_concat_getLast h
  rw [List.dropLast_eq_take, List.getLast_eq_getElem] at h1
  rw [List.getD_eq_getElem?_getD, List.getElem?_eq_getElem (show w.length - 1 < w.length by have := List.length_pos_iff.2 h; omega)]
  exact h1.symm
theorem drop_c {α : Type} {l : List α} {i : Int} {d : α} (h0 : 0 ≤ i) (h1 : i < (l.length : Int)) : l.drop i.toNat = l.getD i.toNat d :: l.drop (i.toNat + 1) := by
  have hi : i.toNat < l.length := by omega
  rw [List.drop_eq_getElem_cons hi, List.getD_eq_getElem?_getD, List.getElem?_eq_getElem hi]
  rfl
theorem vld_cons {n x : Int} {r : List Int} : vld n (x :: r) = if 0 ≤ x ∧ x < n then x :: vld n r else vld n r := by
  unfold vld
  rw [List.filter_cons]
  by_cases h : 0 ≤ x ∧ x < n
  · rw [if_pos h, if_pos (by simp [h])]
  · rw [if_neg h, if_neg (by simpa using h)]
theorem vld_len {n : Int} {r : List Int} : (vld n r).length ≤ r.length := List.length_filter_le _ _
theorem wi {i N : Int} (h0 : 0 ≤ i) (h1 : i < N) (h2 : N ≤ 1000000) : IntKind.wrap .i64 (i + 1) = i + 1 ∧ (i + 1).toNat = i.toNat + 1 ∧ ((i.toNat : Nat) : Int) = i := ⟨w64 (by omega) (by omega), by omega, by omega⟩
theorem getD_ge {α : Type} {l : List α} {i : Nat} {d : α} (h : l.length ≤ i) : l.getD i d = d := by
  rw [List.getD_eq_getElem?_getD, List.getElem?_eq_none h]; rfl
theorem getD_all {α : Type} {p : α → Prop} {l : List α} {d : α} (h : ∀ x ∈ l, p x) (hd : p d) (i : Nat) : p (l.getD i d) := by
  rw [List.getD_eq_getElem?_getD]
  cases hi : l[i]? with
  | none => exact hd
  | some x => exact h x (List.mem_of_getElem? hi)
abbrev Ins := Int × Int × Int × Int × Int × Unit
theorem Len_ {n : Int} (h0 : 0 ≤ n) (h1 : n ≤ 255) {H1 : Int → (ι → O) → O} (h : ∀ v, T P (H1 v)) : T P (fun K => math_bits_Len n (fun v => H1 v K)) := by
  unfold math_bits_Len math_bits_Len.body math_bits_Len64 math_bits_Len64.body
  refine tcd (fun h => by omega) (fun _ => tcd (fun h => by omega) (fun _ => tcd (fun h => by omega) (fun _ => ?_)))
  have e := w8 h0 h1
  exact tna (by rw [e]; omega) (by rw [e]; omega) (h _)
theorem less_ {x y : Int} (K : Bool → O) : cmp_Less_int x y K = K (decide (x < y)) := by
  unfold cmp_Less_int cmp_Less_int.body cmp_isNaN_int cmp_isNaN_int.body
  simp
def srt (a b : Int) : List Int := if b < a then [b, a] else [a, b]
theorem wz : IntKind.wrap .i64 (0 : Int) = 0 := w64 (by omega) (by omega)
theorem w1 : IntKind.wrap .i64 (1 : Int) = 1 := w64 (by omega) (by omega)
theorem w2 : IntKind.wrap .i64 (2 : Int) = 2 := w64 (by omega) (by omega)
theorem insL2 {m : Nat} (hm : 2 ≤ m) {a b : Int} (K : Int → Int → Int → List Int → O) : slices_insertionSortOrdered_int_L0_L2 m 0 2 1 1 [a, b] K = K 0 2 1 (srt a b) := by
  obtain ⟨r, rfl⟩ : ∃ r, m = r + 2 := ⟨m - 2, by omega⟩
  rw [slices_insertionSortOrdered_int_L0_L2]
  unfold slices_insertionSortOrdered_int_L0_L2.body
  unfold srt
  by_cases h : b < a
  · rw [slices_insertionSortOrdered_int_L0_L2]
    unfold slices_insertionSortOrdered_int_L0_L2.body
    simp [less_, h, wz]
  · simp [less_, h, wz]
theorem ins2 {a b : Int} (K : List Int → O) : slices_insertionSortOrdered_int 0 2 [a, b] K = K (srt a b) := by
  have hR := rb
  unfold slices_insertionSortOrdered_int slices_insertionSortOrdered_int.body
  obtain ⟨r, hr⟩ : ∃ r, ROUNDS = r + 2 := ⟨ROUNDS - 2, by omega⟩
  rw [show IntKind.wrap .i64 ((0 : Int) + 1) = 1 from w64 (by omega) (by omega), hr, slices_insertionSortOrdered_int_L0]
  unfold slices_insertionSortOrdered_int_L0.body
  rw [insL2 (by omega), slices_insertionSortOrdered_int_L0]
  unfold slices_insertionSortOrdered_int_L0.body
  simp [w2]
theorem ins1 {a : Int} (K : List Int → O) : slices_insertionSortOrdered_int 0 1 [a] K = K [a] := by
  have hR := rb
  unfold slices_insertionSortOrdered_int slices_insertionSortOrdered_int.body
  obtain ⟨r, hr⟩ : ∃ r, ROUNDS = r + 2 := ⟨ROUNDS - 2, by omega⟩
  rw [show IntKind.wrap .i64 ((0 : Int) + 1) = 1 from w64 (by omega) (by omega), hr, slices_insertionSortOrdered_int_L0]
  unfold slices_insertionSortOrdered_int_L0.body
  simp
theorem ins0 (K : O) : slices_insertionSortOrdered_intv1 0 0 K = K := by
  have hR := rb
  unfold slices_insertionSortOrdered_intv1 slices_insertionSortOrdered_intv1.body
  obtain ⟨r, hr⟩ : ∃ r, ROUNDS = r + 2 := ⟨ROUNDS - 2, by omega⟩
  rw [show IntKind.wrap .i64 ((0 : Int) + 1) = 1 from w64 (by omega) (by omega), hr, slices_insertionSortOrdered_intv1_L0]
  unfold slices_insertionSortOrdered_intv1_L0.body
  simp
theorem pdq2 {a b v : Int} (K : List Int → O) : slices_pdqsortOrdered_int 0 2 v [a, b] K = K (srt a b) := by
  have hR := rb
  unfold slices_pdqsortOrdered_int slices_pdqsortOrdered_int.body
  obtain ⟨r, hr⟩ : ∃ r, ROUNDS = r + 1 := ⟨ROUNDS - 1, by omega⟩
  rw [hr, slices_pdqsortOrdered_int_L0]
  unfold slices_pdqsortOrdered_int_L0.body
  simp [w2, ins2]
theorem pdq1 {a v : Int} (K : List Int → O) : slices_pdqsortOrdered_int 0 1 v [a] K = K [a] := by
  have hR := rb
  unfold slices_pdqsortOrdered_int slices_pdqsortOrdered_int.body
  obtain ⟨r, hr⟩ : ∃ r, ROUNDS = r + 1 := ⟨ROUNDS - 1, by omega⟩
  rw [hr, slices_pdqsortOrdered_int_L0]
  unfold slices_pdqsortOrdered_int_L0.body
  simp [w1, ins1]
theorem pdq0 {v : Int} (K : O) : slices_pdqsortOrdered_intv1 0 0 v K = K := by
  have hR := rb
  unfold slices_pdqsortOrdered_intv1 slices_pdqsortOrdered_intv1.body
  obtain ⟨r, hr⟩ : ∃ r, ROUNDS = r + 1 := ⟨ROUNDS - 1, by omega⟩
  rw [hr, slices_pdqsortOrdered_intv1_L0]
  unfold slices_pdqsortOrdered_intv1_L0.body
  simp [wz, ins0]
theorem Sort2 {a b : Int} {H1 : List Int → (ι → O) → O} (h : T P (H1 (srt a b))) : T P (fun K => slices_Sort_int_int [a, b] (fun x => H1 x K)) := by
  unfold slices_Sort_int_int slices_Sort_int_int.body
  refine Len_ (n := IntKind.wrap .u64 (([a, b].length : Nat) : Int)) (by rw [wu64 (by omega) (by show (2 : Int) ≤ _; omega)]; omega) (by rw [wu64 (by omega) (by show (2 : Int) ≤ _; omega)]; show (2 : Int) ≤ _; omega) (fun v => ?_)
  exact h.eq fun K => pdq2 _
theorem Sort1 {a : Int} {H1 : List Int → (ι → O) → O} (h : T P (H1 [a])) : T P (fun K => slices_Sort_int_int [a] (fun x => H1 x K)) := by
  unfold slices_Sort_int_int slices_Sort_int_int.body
  refine Len_ (n := IntKind.wrap .u64 (([a].length : Nat) : Int)) (by rw [wu64 (by omega) (by show (1 : Int) ≤ _; omega)]; omega) (by rw [wu64 (by omega) (by show (1 : Int) ≤ _; omega)]; show (1 : Int) ≤ _; omega) (fun v => ?_)
  exact h.eq fun K => pdq1 _
theorem Sort0 {H1 : (ι → O) → O} (h : T P H1) : T P (fun K => slices_Sort_int_intv1 (H1 K)) := by
  unfold slices_Sort_int_intv1 slices_Sort_int_intv1.body
  exact Len_ (n := 0) (by omega) (by omega) (fun v => h.eq fun K => pdq0 _)
theorem Cmp1 {a : Int} (K1 : List Int → O) (K2 : Nat → List Int → O) : slices_Compact_int_int [a] K1 K2 = K1 [a] := by
  unfold slices_Compact_int_int slices_Compact_int_int.body
  simp
theorem Cmp2 {a b : Int} (K : List Int → O) : slices_Compact_int_int [a, b] (fun x => K x) (fun m x => K (List.take m x)) = K (if a = b then [a] else [a, b]) := by
  have hR := rb
  unfold slices_Compact_int_int slices_Compact_int_int.body
  obtain ⟨r, hr⟩ : ∃ r, ROUNDS = r + 2 := ⟨ROUNDS - 2, by omega⟩
  rw [hr, slices_Compact_int_int_L0]
  unfold slices_Compact_int_int_L0.body
  by_cases h : a = b
  · subst h
    rw [hr, slices_Compact_int_int_L0_L2]
    unfold slices_Compact_int_int_L0_L2.body
    simp [wz, setCells]
  · rw [slices_Compact_int_int_L0]
    unfold slices_Compact_int_int_L0.body
    simp [wz, w1, w2]
    rw [ieqf (fun e : b = a => h e.symm), cond_f, if_neg h]
def nextV (code : List Ins) (i : Int) : List Int := if i < 0 then [] else if i ≥ (code.length : Int) then [] else
  if (code.getD i.toNat ((0 : Int), ((0 : Int), ((0 : Int), ((0 : Int), ((0 : Int), ())))))).1 = 12 then (if (code.getD i.toNat ((0 : Int), ((0 : Int), ((0 : Int), ((0 : Int), ((0 : Int), ())))))).2.2.2.2.1 = i + 1 then [i + 1] else if (code.getD i.toNat ((0 : Int), ((0 : Int), ((0 : Int), ((0 : Int), ((0 : Int), ())))))).2.2.2.2.1 < i + 1 then [(code.getD i.toNat ((0 : Int), ((0 : Int), ((0 : Int), ((0 : Int), ((0 : Int), ())))))).2.2.2.2.1, i + 1] else [i + 1, (code.getD i.toNat ((0 : Int), ((0 : Int), ((0 : Int), ((0 : Int), ((0 : Int), ())))))).2.2.2.2.1])
  else if (code.getD i.toNat ((0 : Int), ((0 : Int), ((0 : Int), ((0 : Int), ((0 : Int), ())))))).1 = 11 then [(code.getD i.toNat ((0 : Int), ((0 : Int), ((0 : Int), ((0 : Int), ((0 : Int), ())))))).2.2.2.2.1] else if (code.getD i.toNat ((0 : Int), ((0 : Int), ((0 : Int), ((0 : Int), ((0 : Int), ())))))).1 = 22 ∨ (code.getD i.toNat ((0 : Int), ((0 : Int), ((0 : Int), ((0 : Int), ((0 : Int), ())))))).1 = 24 then [] else [i + 1]
theorem Next_ {code : List Ins} (hl : code.length ≤ 80) {i : Int} {H1 : List Int → (ι → O) → O} (h : T P (H1 (nextV code i))) : T P (fun K => flow_Next code i (fun x => H1 x K)) := by
  unfold flow_Next flow_Next.body
  unfold nextV at h
  refine tcn (tcd (fun h1 => by rw [if_pos h1] at h; exact h) (fun h1 => tcd (fun h2 => by rw [if_neg h1, if_pos h2] at h; exact h) (fun h2 => ?_)))
  rw [if_neg h1, if_neg h2] at h
  have e1 : IntKind.wrap .i64 (i + 1) = i + 1 := w64 (by omega) (by omega)
  rw [e1]
  refine tna (by omega) (by omega) (tce (fun h3 => ?_) (fun h3 => tce (fun h4 => ?_) (fun h4 => ?_)))
  · rw [if_pos h3] at h
    refine Sort2 ?_
    generalize (code.getD i.toNat ((0 : Int), ((0 : Int), ((0 : Int), ((0 : Int), ((0 : Int), ())))))).2.2.2.2.1 = n at h
    unfold srt
    by_cases h5 : n = i + 1
    · rw [if_pos h5] at h
      subst h5
      rw [if_neg (by omega)]
      exact h.eq fun K => (Cmp2 (fun x => H1 x K)).trans (by rw [if_pos rfl])
    · rw [if_neg h5] at h
      by_cases h6 : n < i + 1
      · rw [if_pos h6] at h ⊢
        exact h.eq fun K => (Cmp2 (fun x => H1 x K)).trans (by rw [if_neg h5])
      · rw [if_neg h6] at h ⊢
        exact h.eq fun K => (Cmp2 (fun x => H1 x K)).trans (by rw [if_neg (fun e => h5 e.symm)])
  · rw [if_neg h3, if_pos h4] at h
    exact Sort1 (h.eq fun K => Cmp1 _ _)
  · rw [if_neg h3, if_neg h4] at h
    unfold op_Ends op_Ends.body
    refine tcn (tce (fun h5 => absurd h5 h4) (fun _ => tcn (tce (fun h5 => ?_) (fun h5 => ?_))))
    · rw [if_pos (.inl h5)] at h
      refine tcn (tct (Sort0 ?_))
      unfold slices_Compact_int_intv1 slices_Compact_int_intv1.body
      exact h
    · by_cases h6 : (code.getD i.toNat ((0 : Int), ((0 : Int), ((0 : Int), ((0 : Int), ((0 : Int), ())))))).1 = 24
      · rw [if_pos (.inr h6)] at h
        rw [h6]
        refine tcn (tct (Sort0 ?_))
        unfold slices_Compact_int_intv1 slices_Compact_int_intv1.body
        exact h
      · rw [if_neg (fun h => h.elim h5 h6)] at h
        rw [show ((code.getD i.toNat ((0 : Int), ((0 : Int), ((0 : Int), ((0 : Int), ((0 : Int), ())))))).1 == 24) = false from ieqf h6]
        exact tcn (tcf (Sort1 (h.eq fun K => Cmp1 _ _)))
theorem nextV_len {code : List Ins} {i : Int} : (nextV code i).length ≤ 2 := by
  unfold nextV
  repeat' split
  all_goals simp
def endsB (n : Int) : Bool := n == 11 || (n == 22 || n == 24)
theorem En_1 (K : Bool → O) : ref07_Ends 1 K = K (endsB 1) := by kernel_rfl
theorem En_2 (K : Bool → O) : ref07_Ends 2 K = K (endsB 2) := by kernel_rfl
theorem En_3 (K : Bool → O) : ref07_Ends 3 K = K (endsB 3) := by kernel_rfl
theorem En_4 (K : Bool → O) : ref07_Ends 4 K = K (endsB 4) := by kernel_rfl
theorem En_5 (K : Bool → O) : ref07_Ends 5 K = K (endsB 5) := by kernel_rfl
theorem En_6 (K : Bool → O) : ref07_Ends 6 K = K (endsB 6) := by kernel_rfl
theorem En_7 (K : Bool → O) : ref07_Ends 7 K = K (endsB 7) := by kernel_rfl
theorem En_8 (K : Bool → O) : ref07_Ends 8 K = K (endsB 8) := by kernel_rfl
theorem En_9 (K : Bool → O) : ref07_Ends 9 K = K (endsB 9) := by kernel_rfl
theorem En_10 (K : Bool → O) : ref07_Ends 10 K = K (endsB 10) := by kernel_rfl
theorem En_11 (K : Bool → O) : ref07_Ends 11 K = K (endsB 11) := by kernel_rfl
theorem En_12 (K : Bool → O) : ref07_Ends 12 K = K (endsB 12) := by kernel_rfl
theorem En_13 (K : Bool → O) : ref07_Ends 13 K = K (endsB 13) := by kernel_rfl
theorem En_14 (K : Bool → O) : ref07_Ends 14 K = K (endsB 14) := by kernel_rfl
theorem En_15 (K : Bool → O) : ref07_Ends 15 K = K (endsB 15) := by kernel_rfl
theorem En_16 (K : Bool → O) : ref07_Ends 16 K = K (endsB 16) := by kernel_rfl
theorem En_17 (K : Bool → O) : ref07_Ends 17 K = K (endsB 17) := by kernel_rfl
theorem En_18 (K : Bool → O) : ref07_Ends 18 K = K (endsB 18) := by kernel_rfl
theorem En_19 (K : Bool → O) : ref07_Ends 19 K = K (endsB 19) := by kernel_rfl
theorem En_20 (K : Bool → O) : ref07_Ends 20 K = K (endsB 20) := by kernel_rfl
theorem En_21 (K : Bool → O) : ref07_Ends 21 K = K (endsB 21) := by kernel_rfl
theorem En_22 (K : Bool → O) : ref07_Ends 22 K = K (endsB 22) := by kernel_rfl
theorem En_23 (K : Bool → O) : ref07_Ends 23 K = K (endsB 23) := by kernel_rfl
theorem En_24 (K : Bool → O) : ref07_Ends 24 K = K (endsB 24) := by kernel_rfl
theorem En_25 (K : Bool → O) : ref07_Ends 25 K = K (endsB 25) := by kernel_rfl
theorem En_26 (K : Bool → O) : ref07_Ends 26 K = K (endsB 26) := by kernel_rfl
theorem En_27 (K : Bool → O) : ref07_Ends 27 K = K (endsB 27) := by kernel_rfl
theorem En_28 (K : Bool → O) : ref07_Ends 28 K = K (endsB 28) := by kernel_rfl
theorem Ends_ {n : Int} (K : Bool → O) : ref07_Ends n K = K (endsB n) := by
  by_cases h1 : n < 1 ∨ n > 28
  · have hn : ∀ K : ByteArray → O, ref07_Name n K = K (⟨#[]⟩ : ByteArray) := fun K => by
      unfold ref07_Name ref07_Name.body ref07_names ref07_names.body
      dsimp only
      by_cases h2 : n < 1
      · rw [cond_neg (by simp [h2])]
      · rw [cond_pos (by simp [h2]), cond_pos (by simp; omega)]
    unfold ref07_Ends ref07_Ends.body
    rw [hn, hn, hn, seqf (by decide), seqf (by decide), seqf (by decide)]
    rw [show endsB n = false from by unfold endsB; rw [ieqf (by omega), ieqf (by omega), ieqf (by omega)]; rfl]
    simp
  · have h3 : n = 1 ∨ n = 2 ∨ n = 3 ∨ n = 4 ∨ n = 5 ∨ n = 6 ∨ n = 7 ∨ n = 8 ∨ n = 9 ∨ n = 10 ∨ n = 11 ∨ n = 12 ∨ n = 13 ∨ n = 14 ∨ n = 15 ∨ n = 16 ∨ n = 17 ∨ n = 18 ∨ n = 19 ∨ n = 20 ∨ n = 21 ∨ n = 22 ∨ n = 23 ∨ n = 24 ∨ n = 25 ∨ n = 26 ∨ n = 27 ∨ n = 28 := by omega
    rcases h3 with rfl | rfl | rfl | rfl | rfl | rfl | rfl | rfl | rfl | rfl | rfl | rfl | rfl | rfl | rfl | rfl | rfl | rfl | rfl | rfl | rfl | rfl | rfl | rfl | rfl | rfl | rfl | rfl
    · exact En_1 K
    · exact En_2 K
    · exact En_3 K
    · exact En_4 K
    · exact En_5 K
    · exact En_6 K
    · exact En_7 K
    · exact En_8 K
    · exact En_9 K
    · exact En_10 K
    · exact En_11 K
    · exact En_12 K
    · exact En_13 K
    · exact En_14 K
    · exact En_15 K
    · exact En_16 K
    · exact En_17 K
    · exact En_18 K
    · exact En_19 K
    · exact En_20 K
    · exact En_21 K
    · exact En_22 K
    · exact En_23 K
    · exact En_24 K
    · exact En_25 K
    · exact En_26 K
    · exact En_27 K
    · exact En_28 K
theorem RNext_ {code : List Ins} (hl : code.length ≤ 80) {i : Int} {H1 : List Int → (ι → O) → O} (h : T P (H1 (nextV code i))) : T P (fun K => ref14_Next code i (fun x => H1 x K)) := by
  unfold ref14_Next ref14_Next.body
  unfold nextV at h
  refine tcn (tcd (fun h1 => by rw [if_pos h1] at h; exact h) (fun h1 => tcd (fun h2 => by rw [if_neg h1, if_pos h2] at h; exact h) (fun h2 => ?_)))
  rw [if_neg h1, if_neg h2] at h
  have e1 : IntKind.wrap .i64 (i + 1) = i + 1 := w64 (by omega) (by omega)
  rw [e1]
  refine tna (by omega) (by omega) (tce (fun h4 => ?_) (fun h4 => ?_))
  · rw [if_neg (by rw [h4]; decide), if_pos h4] at h
    exact h
  · refine T.eq (F := fun K => ref07_Ends _ _) (G := fun K => _) ?_ (fun K => Ends_ _)
    generalize hx : (code.getD i.toNat ((0 : Int), ((0 : Int), ((0 : Int), ((0 : Int), ((0 : Int), ())))))).1 = x at h h4 ⊢
    generalize (code.getD i.toNat ((0 : Int), ((0 : Int), ((0 : Int), ((0 : Int), ((0 : Int), ())))))).2.2.2.2.1 = n at h
    unfold endsB
    rw [ieqf h4, Bool.false_or]
    by_cases h5 : x = 22 ∨ x = 24
    · rw [if_neg (by omega), if_neg h4, if_pos h5] at h
      rw [show (x == 22 || x == 24) = true from by rcases h5 with h5 | h5 <;> subst h5 <;> rfl]
      exact tct h
    · have h6 : x ≠ 22 := fun e => h5 (.inl e)
      have h7 : x ≠ 24 := fun e => h5 (.inr e)
      rw [ieqf h6, ieqf h7, Bool.false_or]
      refine tcf (tcn (tcne (fun h8 => ?_) (fun h8 => ?_)))
      · rw [if_neg h8, if_neg h4, if_neg h5] at h
        exact h
      · rw [if_pos h8] at h
        refine tce (fun h9 => ?_) (fun h9 => tcd (fun h10 => ?_) (fun h10 => ?_))
        · rw [if_pos h9] at h; exact h
        · rw [if_neg h9, if_pos h10] at h; exact h
        · rw [if_neg h9, if_neg h10] at h; exact h
def graphV (code : List Ins) : List (List Int) := (List.range code.length).map fun (k : Nat) => nextV code (k : Int)
theorem graphV_len {code : List Ins} : (graphV code).length = code.length := by unfold graphV; rw [List.length_map, List.length_range]
theorem graphV_get {code : List Ins} {u : Nat} (h : u < code.length) : (graphV code).getD u [] = nextV code (u : Int) := by
  unfold graphV
  rw [List.getD_eq_getElem?_getD, List.getElem?_map, List.getElem?_range h]
  rfl
theorem graphV_row {code : List Ins} : ∀ row ∈ graphV code, row.length ≤ 30 := fun row hr => by
  unfold graphV at hr
  obtain ⟨k, _, rfl⟩ := List.mem_map.1 hr
  exact Nat.le_trans nextV_len (by decide)
theorem graphL_ {code : List Ins} (hl : code.length ≤ 80) {H1 : List (List Int) → (ι → O) → O} (h : T P (H1 (graphV code))) : ∀ {m : Nat} {i : Int} {ls : List (List Int)}, 0 ≤ i → i ≤ (code.length : Int) → (code.length : Int) < i + m → ls = (graphV code).take i.toNat → T P (fun K => flow_graph_L0 m code (code.length : Int) i ls (fun x => H1 x K)) := by
  intro m
  induction m with
  | zero => intros; omega
  | succ m ih =>
    intro i ls g0 g1 g2 g3
    have hgl := graphV_len (code := code)
    rw [flow_graph_L0]
    unfold flow_graph_L0.body
    refine tcd (fun h1 => Next_ hl ?_) (fun h1 => ?_)
    · obtain ⟨e1, e2, e3⟩ := wi g0 h1 (by omega)
      have hls : ls.length ≤ 80 := by rw [g3, List.length_take]; omega
      refine tnb (by simp only [List.length_cons, List.length_nil]; omega) ?_
      rw [e1]
      refine ih (by omega) (by omega) (by omega) ?_
      rw [e2, List.take_add_one, ← g3]
      congr 1
      have : (graphV code)[i.toNat]? = some (nextV code i) := by
        have hg := graphV_get (code := code) (u := i.toNat) (by omega)
        rw [List.getD_eq_getElem?_getD, e3] at hg
        rw [List.getElem?_eq_getElem (by omega)] at hg ⊢
        exact congrArg some hg
      rw [this]
      rfl
    · rw [List.take_of_length_le (by omega)] at g3
      rw [g3]; exact h
theorem graph_ {code : List Ins} (hl : code.length ≤ 80) {H1 : List (List Int) → (ι → O) → O} (h : T P (H1 (graphV code))) : T P (fun K => flow_graph code (fun x => H1 x K)) := by
  have := rb
  unfold flow_graph flow_graph.body
  exact graphL_ hl h (Int.le_refl _) (by omega) (by omega) rfl
def aftV (code : List Ins) (l : List Int) : List Int := l.flatMap (nextV code)
theorem aftV_len {code : List Ins} : ∀ {l : List Int}, (aftV code l).length ≤ 2 * l.length
  | [] => Nat.le_refl _
  | x :: r => by
    have h1 := aftV_len (code := code) (l := r)
    have h2 := nextV_len (code := code) (i := x)
    unfold aftV at h1 ⊢
    rw [List.flatMap_cons, List.length_append, List.length_cons]
    omega
theorem digraph_Reach_round4v1_ {x : Int} {ws : List Int} {H1 : Bool → List Int → (ι → O) → O} (hl : ws.length ≤ 1000000) (h1 : T P (H1 true (ws ++ [x]))) : T P (fun K => digraph_Reach_round4v1 x ws (fun a b => H1 a b K)) := by
  unfold digraph_Reach_round4v1 digraph_Reach_round4v1.body
  exact tnb (by simp only [List.length_cons, List.length_nil]; omega) h1
theorem digraph_endsfn1_L0_ {row : List Int} {g : List (List Int)} {at_ : Int} {V : List Int} (hrow : row.length ≤ 1000) : ∀ {m : Nat} {i : Int} {ws : List Int} {H1 H2 : List (List Int) → Int → List Int → (ι → O) → O}, 0 ≤ i → i ≤ (row.length : Int) → (row.length : Int) < i + m → (ws.length : Int) ≤ 100000 + i → ws ++ vld (g.length : Int) (row.drop i.toNat) = V → T P (H2 g at_ V) → T P (fun K => digraph_endsfn1_L0 m row (row.length : Int) i g at_ ws (fun a b c => H1 a b c K) (fun a b c => H2 a b c K)) := by
  intro m
  induction m with
  | zero => intros; omega
  | succ m ih =>
    intro i ws H1 H2 g0 g1 g2 g3 g4 h2
    rw [digraph_endsfn1_L0]
    unfold digraph_endsfn1_L0.body
    refine tcd (fun h => ?_) (fun h => ?_)
    · obtain ⟨e1, e2, e3⟩ := wi g0 h (by omega)
      rw [drop_c (d := 0) g0 h, vld_cons] at g4
      refine tna g0 h (tcd (fun ha => tcd (fun hb => digraph_Reach_round4v1_ (by omega) ?_) (fun hb => ?_)) (fun ha => ?_))
      · rw [if_pos ⟨ha, hb⟩] at g4
        refine tcn (tct ?_)
        rw [e1]
        exact ih (by omega) (by omega) (by omega) (by simp only [List.length_append, List.length_cons, List.length_nil]; omega) (by rw [e2, List.append_assoc]; exact g4) h2
      · rw [if_neg (fun h => hb h.2)] at g4
        rw [e1]
        exact ih (by omega) (by omega) (by omega) (by omega) (by rw [e2]; exact g4) h2
      · rw [if_neg (fun h => ha h.1)] at g4
        rw [e1]
        exact ih (by omega) (by omega) (by omega) (by omega) (by rw [e2]; exact g4) h2
    · rw [List.drop_eq_nil_of_le (by omega)] at g4
      have : ws = V := by rw [← g4]; exact (List.append_nil ws).symm
      rw [this]; exact h2
theorem digraph_endsfn1_ {k : Nat} {ns : List Int} {g : List (List Int)} {a : Int} {H1 : List (List Int) → Int → List Int → (ι → O) → O} (ha : okN g a) (hr : ∀ row ∈ g, row.length ≤ 30) (hn : ns.length ≤ 100000) (h1 : T P (H1 g a (ns.take k ++ vld (g.length : Int) (g.getD a.toNat [])))) : T P (fun K => digraph_endsfn1 k ns g a (fun x y z => H1 x y z K)) := by
  have := rb
  have hrow : (g.getD a.toNat []).length ≤ 30 := getD_all (p := fun r : List Int => r.length ≤ 30) hr (by decide) _
  have hk : (ns.take k).length ≤ ns.length := by rw [List.length_take]; exact Nat.min_le_right _ _
  unfold digraph_endsfn1 digraph_endsfn1.body
  exact tna ha.1 ha.2 (digraph_endsfn1_L0_ (H1 := H1) (H2 := H1) (by omega) (Int.le_refl _) (by omega) (by omega) (by omega) rfl h1)
theorem digraph_Reach_L2_ {g : List (List Int)} {l : List Int} (hg : g.length ≤ 100) (hr : ∀ row ∈ g, row.length ≤ 30) {H1 : List Bool → (ι → O) → O} (h1 : ∀ out, Told g l out → T P (H1 out)) : ∀ {m : Nat} {out : List Bool} {ws : List Int}, Inv g l out ws → 31 * cf out + ws.length < m → 31 * cf out + ws.length ≤ 100000 → T P (fun K => digraph_Reach_L2 m g out ws (fun a => H1 a K)) := by
  intro m
  induction m with
  | zero => intros; omega
  | succ m ih =>
    intro out ws hi g0 g1
    rw [digraph_Reach_L2]
    unfold digraph_Reach_L2.body
    by_cases hw : ws = []
    · subst hw
      exact tcd (fun h => absurd h (by decide)) (fun _ => h1 _ hi.told)
    · have hl : 0 < ws.length := List.length_pos_iff.2 hw
      have e1 : IntKind.wrap .i64 ((ws.length : Int) - 1) = (ws.length : Int) - 1 := w64 (by omega) (by omega)
      have e2 : ((ws.length : Int) - 1).toNat = ws.length - 1 := by omega
      rw [e1, Int.sub_zero, e2]
      have hs := last_split hw
      generalize ws.getD (ws.length - 1) 0 = a at hs ⊢
      have hi' := hi
      rw [hs] at hi'
      obtain ⟨ha, _⟩ := hi'.wt a (List.mem_append_right _ (List.mem_singleton.2 rfl))
      have ha1 : 0 ≤ a := ha.1
      have ha2 : a < (g.length : Int) := ha.2
      have hlen := hi.len
      have hwl : (ws.take (ws.length - 1)).length = ws.length - 1 := by rw [List.length_take]; omega
      refine tcd (fun _ => tna (by omega) (by omega) (tn (by simp only [Bool.true_and, Bool.and_eq_true, decide_eq_true_eq]; omega) (tna (by omega) (by omega) (tc (fun hb => ?_) (fun hb => tna (by omega) (by omega) ?_))))) (fun h => by omega)
      · exact ih (hi'.skip hb) (by rw [hwl]; omega) (by rw [hwl]; omega)
      · have hrow : (g.getD a.toNat []).length ≤ 30 := getD_all (p := fun r : List Int => r.length ≤ 30) hr (by decide) _
        have hv := vld_len (n := (g.length : Int)) (r := g.getD a.toNat [])
        have hc := cf_set (l := out) (i := a.toNat) (by omega) hb
        unfold digraph_ends digraph_ends.body
        exact digraph_endsfn1_ ha hr (by omega) (ih hi'.mark (by rw [List.length_append]; omega) (by rw [List.length_append]; omega))
theorem digraph_Reach_L0_ {g : List (List Int)} {l : List Int} {out : List Bool} (hl : l.length ≤ 1000) {H1 : List (List Int) → List Bool → List Int → (ι → O) → O} (h1 : T P (H1 g out (vld (g.length : Int) l))) : ∀ {m : Nat} {i : Int} {ws : List Int}, 0 ≤ i → i ≤ (l.length : Int) → (l.length : Int) < i + m → (ws.length : Int) ≤ i → ws ++ vld (g.length : Int) (l.drop i.toNat) = vld (g.length : Int) l → T P (fun K => digraph_Reach_L0 m g l (l.length : Int) i out ws (fun a b c => H1 a b c K)) := by
  intro m
  induction m with
  | zero => intros; omega
  | succ m ih =>
    intro i ws g0 g1 g2 g3 g4
    rw [digraph_Reach_L0]
    unfold digraph_Reach_L0.body
    refine tcd (fun h => ?_) (fun h => ?_)
    · obtain ⟨e1, e2, e3⟩ := wi g0 h (by omega)
      rw [drop_c (d := 0) g0 h, vld_cons] at g4
      refine tna g0 h (tcd (fun ha => tcd (fun hb => tnb (by simp only [List.length_cons, List.length_nil]; omega) ?_) (fun hb => ?_)) (fun ha => ?_))
      · rw [if_pos ⟨ha, hb⟩] at g4
        rw [e1]
        exact ih (by omega) (by omega) (by omega) (by simp only [List.length_append, List.length_cons, List.length_nil]; omega) (by rw [e2, List.append_assoc]; exact g4)
      · rw [if_neg (fun h => hb h.2)] at g4
        rw [e1]
        exact ih (by omega) (by omega) (by omega) (by omega) (by rw [e2]; exact g4)
      · rw [if_neg (fun h => ha h.1)] at g4
        rw [e1]
        exact ih (by omega) (by omega) (by omega) (by omega) (by rw [e2]; exact g4)
    · rw [List.drop_eq_nil_of_le (by omega)] at g4
      have : ws = vld (g.length : Int) l := by rw [← g4]; exact (List.append_nil ws).symm
      rw [this]; exact h1
theorem digraph_Reach_ {g : List (List Int)} {l : List Int} (hg : g.length ≤ 100) (hr : ∀ row ∈ g, row.length ≤ 30) (hl : l.length ≤ 1000) {H1 : List Bool → (ι → O) → O} (h1 : ∀ out, Told g l out → T P (H1 out)) : T P (fun K => digraph_Reach g l (fun a => H1 a K)) := by
  have := rb
  unfold digraph_Reach digraph_Reach.body
  refine tn (by simp only [Int.toNat_natCast, Bool.and_eq_true, decide_eq_true_eq]; exact ⟨⟨by omega, trivial⟩, ble_t (by omega)⟩) (digraph_Reach_L0_ hl ?_ (Int.le_refl _) (by omega) (by omega) (Int.le_refl _) rfl)
  rw [Int.toNat_natCast]
  have hv := vld_len (n := (g.length : Int)) (r := l)
  have hc := cf_le (List.replicate g.length false)
  rw [List.length_replicate] at hc
  exact digraph_Reach_L2_ hg hr h1 (Inv.start (by rw [List.length_replicate]) (fun v => by rw [List.getD_eq_getElem?_getD, List.getElem?_replicate]; split <;> rfl)) (by omega) (by omega)
theorem flow_After_L0_ {code : List Ins} (hl : code.length ≤ 80) {l : List Int} (hm : l.length ≤ 100) {H1 : List Ins → List Int → (ι → O) → O} (h : T P (H1 code (aftV code l))) : ∀ {m : Nat} {i : Int} {ws : List Int}, 0 ≤ i → i ≤ (l.length : Int) → (l.length : Int) < i + m → (ws.length : Int) ≤ 2 * i → ws ++ aftV code (l.drop i.toNat) = aftV code l → T P (fun K => flow_After_L0 m code l (l.length : Int) i ws (fun a b => H1 a b K)) := by
  intro m
  induction m with
  | zero => intros; omega
  | succ m ih =>
    intro i ws g0 g1 g2 g3 g4
    rw [flow_After_L0]
    unfold flow_After_L0.body
    refine tcd (fun h1 => ?_) (fun h1 => ?_)
    · obtain ⟨e1, e2, e3⟩ := wi g0 h1 (by omega)
      have hn := nextV_len (code := code) (i := l.getD i.toNat 0)
      rw [drop_c (d := 0) g0 h1] at g4
      refine tna g0 h1 (Next_ hl (tnb (by omega) ?_))
      rw [e1]
      refine ih (by omega) (by omega) (by omega) (by rw [List.length_append]; omega) ?_
      rw [e2, List.append_assoc]
      exact g4
    · rw [List.drop_eq_nil_of_le (by omega)] at g4
      have : ws = aftV code l := by rw [← g4]; exact (List.append_nil ws).symm
      rw [this]; exact h
theorem flow_After_ {code : List Ins} (hl : code.length ≤ 80) {l : List Int} (hm : l.length ≤ 100) {H1 : List Bool → (ι → O) → O} (h : ∀ out, Told (graphV code) (aftV code l) out → T P (H1 out)) : T P (fun K => flow_After code l (fun a => H1 a K)) := by
  have := rb
  have hg := graphV_len (code := code)
  have ha := aftV_len (code := code) (l := l)
  unfold flow_After flow_After.body
  exact flow_After_L0_ hl hm (H1 := fun x ys K => flow_graph x fun ls => digraph_Reach ls ys fun out => H1 out K) (graph_ hl (digraph_Reach_ (by omega) graphV_row (by omega) h)) (Int.le_refl _) (by omega) (by omega) (by show (0 : Int) ≤ 0; omega) rfl
theorem flow_Afterv1_L0_ {code : List Ins} (hl : code.length ≤ 80) {l : List Int} (hm : l.length ≤ 100) {H1 : List Ins → List Int → (ι → O) → O} (h : T P (H1 code (aftV code l))) : ∀ {m : Nat} {i : Int} {ws : List Int}, 0 ≤ i → i ≤ (l.length : Int) → (l.length : Int) < i + m → (ws.length : Int) ≤ 2 * i → ws ++ aftV code (l.drop i.toNat) = aftV code l → T P (fun K => flow_Afterv1_L0 m code l (l.length : Int) i ws (fun a b => H1 a b K)) := by
  intro m
  induction m with
  | zero => intros; omega
  | succ m ih =>
    intro i ws g0 g1 g2 g3 g4
    rw [flow_Afterv1_L0]
    unfold flow_Afterv1_L0.body
    refine tcd (fun h1 => ?_) (fun h1 => ?_)
    · obtain ⟨e1, e2, e3⟩ := wi g0 h1 (by omega)
      have hn := nextV_len (code := code) (i := l.getD i.toNat 0)
      rw [drop_c (d := 0) g0 h1] at g4
      refine tna g0 h1 (Next_ hl (tnb (by omega) ?_))
      rw [e1]
      refine ih (by omega) (by omega) (by omega) (by rw [List.length_append]; omega) ?_
      rw [e2, List.append_assoc]
      exact g4
    · rw [List.drop_eq_nil_of_le (by omega)] at g4
      have : ws = aftV code l := by rw [← g4]; exact (List.append_nil ws).symm
      rw [this]; exact h
theorem flow_Afterv1_ {code : List Ins} (hl : code.length ≤ 80) {l : List Int} (hm : l.length ≤ 100) {H1 : List Bool → (ι → O) → O} (h : ∀ out, Told (graphV code) (aftV code l) out → T P (H1 out)) : T P (fun K => flow_Afterv1 code l (fun a => H1 a K)) := by
  have := rb
  have hg := graphV_len (code := code)
  have ha := aftV_len (code := code) (l := l)
  unfold flow_Afterv1 flow_Afterv1.body
  exact flow_Afterv1_L0_ hl hm (H1 := fun x ys K => flow_graph x fun ls => digraph_Reach ls ys fun out => H1 out K) (graph_ hl (digraph_Reach_ (by omega) graphV_row (by omega) h)) (Int.le_refl _) (by omega) (by omega) (by show (0 : Int) ≤ 0; omega) rfl
/-- what is told is closed -/
theorem Told.closed {g : List (List Int)} {l : List Int} {out : List Bool} (h : Told g l out) {u : Nat} (hu : u < g.length) (ho : out.getD u false = true) {v : Int} (hv : v ∈ g.getD u []) (hk : okN g v) : out.getD v.toNat false = true := by
  have h0 : 0 ≤ v := hk.1
  have h1 : v < (g.length : Int) := hk.2
  refine (h.2 v.toNat (by omega)).2 ?_
  rw [Int.toNat_of_nonneg h0]
  exact ((h.2 u hu).1 ho).step (by rw [Int.toNat_natCast]; exact hv) hk
theorem Live_ {code : List Ins} (hl : code.length ≤ 80) {H1 : List Bool → (ι → O) → O} (h : ∀ out, Told (graphV code) [0] out → T P (H1 out)) : T P (fun K => flow_Live code (fun a => H1 a K)) := by
  have hg := graphV_len (code := code)
  unfold flow_Live flow_Live.body
  exact graph_ hl (H1 := fun ls K => digraph_Reach ls [0] fun out => H1 out K) (digraph_Reach_ (by omega) graphV_row (by decide) h)
theorem known_c {H1 : Bool → (ι → O) → O} (h : T P (H1 true)) : T P (fun K => law14_known (fun b => H1 b K)) := h.eq fun K => rfl
/-- marks that are live -/
def Good (code : List Ins) (live : List Bool) (x : Int) : Prop := okN (graphV code) x ∧ live.getD x.toNat false = true
theorem FL0_ {code : List Ins} {l : List Int} {live after wide : List Bool} (hc : code.length ≤ 80) (hm : l.length ≤ 100) (hlv : live.length = code.length) {H1 : List Ins → Bool → List Bool → List Bool → List Bool → (ι → O) → O} (h : ∀ b, (b = true → ∀ x ∈ l, Good code live x) → T P (H1 code b live after wide)) : ∀ {m : Nat} {b : Bool} {i : Int}, 0 ≤ i → i ≤ (l.length : Int) → (l.length : Int) < i + m → (b = true → ∀ x ∈ l.take i.toNat, Good code live x) → T P (fun K => law14_FlowClosed_L0 m code l b i live after wide (fun x y z u v => H1 x y z u v K)) := by
  intro m
  induction m with
  | zero => intros; omega
  | succ m ih =>
    intro b i g0 g1 g2 g3
    have hg := graphV_len (code := code)
    rw [law14_FlowClosed_L0]
    unfold law14_FlowClosed_L0.body
    refine tcd (fun h1 => ?_) (fun h1 => ?_)
    · obtain ⟨e1, e2, e3⟩ := wi g0 h1 (by omega)
      rw [e1]
      have no : T P (fun K => law14_FlowClosed_L0 m code l false (i + 1) live after wide (fun x y z u v => H1 x y z u v K)) := ih (by omega) (by omega) (by omega) (fun h => by cases h)
      refine tc (fun hb => tna g0 h1 (tcd (fun h2 => tna g0 h1 (tcd (fun h3 => tna g0 h1 (tna h2 (by rw [hlv]; exact h3) ?_)) (fun _ => no))) (fun _ => no))) (fun _ => no)
      refine ih (by omega) (by omega) (by omega) (fun ht x hx => ?_)
      rw [e2, List.take_add_one] at hx
      rcases List.mem_append.1 hx with hx | hx
      · exact g3 hb x hx
      · have hi : i.toNat < l.length := by omega
        rw [List.getElem?_eq_getElem hi] at hx
        have hxe : x = l.getD i.toNat 0 := by
          rw [List.getD_eq_getElem?_getD, List.getElem?_eq_getElem hi]
          exact List.mem_singleton.1 hx
        rw [hxe]
        exact ⟨⟨h2, by rw [hg]; exact h3⟩, ht⟩
    · rw [List.take_of_length_le (by omega)] at g3
      exact h b g3
theorem FL4_ {code : List Ins} {b : Bool} {i : Int} {live after wide : List Bool} (hc : code.length ≤ 80) (h0 : 0 ≤ i) (hi : i < (code.length : Int)) (hlv : live.length = code.length) (haf : after.length = code.length) (hl : ∀ v ∈ nextV code i, okN (graphV code) v → live.getD i.toNat false = true → live.getD v.toNat false = true) (ha : ∀ v ∈ nextV code i, okN (graphV code) v → after.getD i.toNat false = true → after.getD v.toNat false = true)
    {H1 : Bool → (ι → O) → O} {H2 : List Ins → Bool → Int → List Bool → List Bool → List Bool → (ι → O) → O} (h : T P (H2 code b i live after wide)) : ∀ {m : Nat} {k : Int}, 0 ≤ k → k ≤ ((nextV code i).length : Int) → ((nextV code i).length : Int) < k + m → T P (fun K => law14_FlowClosed_L2_L4 m code b i k live after wide (nextV code i) (fun x => H1 x K) (fun x y z u v w => H2 x y z u v w K)) := by
  intro m
  induction m with
  | zero => intros; omega
  | succ m ih =>
    intro k g0 g1 g2
    have hg := graphV_len (code := code)
    have hn := nextV_len (code := code) (i := i)
    rw [law14_FlowClosed_L2_L4]
    unfold law14_FlowClosed_L2_L4.body
    refine tcd (fun h1 => ?_) (fun _ => h)
    obtain ⟨e1, e2, e3⟩ := wi g0 h1 (by omega)
    rw [e1]
    have again : T P (fun K => law14_FlowClosed_L2_L4 m code b i (k + 1) live after wide (nextV code i) (fun x => H1 x K) (fun x y z u v w => H2 x y z u v w K)) := ih (by omega) (by omega) (by omega)
    have hmem : (nextV code i).getD k.toNat 0 ∈ nextV code i := by
      rw [List.getD_eq_getElem?_getD, List.getElem?_eq_getElem (by omega)]
      exact List.getElem_mem _
    generalize (nextV code i).getD k.toNat 0 = v at hmem ⊢
    refine tna g0 h1 (tcd (fun h2 => tna g0 h1 (tcd (fun h3 => ?_) (fun _ => again))) (fun _ => again))
    have hok : okN (graphV code) v := ⟨h2, by rw [hg]; exact h3⟩
    have rest : T P (fun K => cond_ (decide (0 ≤ i) && decide (i < (after.length : Int))) (cond_ (after.getD i.toNat false) (cond_ (decide (0 ≤ k) && decide (k < ((nextV code i).length : Int))) (cond_ (decide (0 ≤ v) && decide (v < (after.length : Int))) (cond_ (!after.getD v.toNat false) (H1 false K) (law14_FlowClosed_L2_L4 m code b i (k + 1) live after wide (nextV code i) (fun x => H1 x K) (fun x y z u v w => H2 x y z u v w K))) none) none) (law14_FlowClosed_L2_L4 m code b i (k + 1) live after wide (nextV code i) (fun x => H1 x K) (fun x y z u v w => H2 x y z u v w K))) none) :=
      tna h0 (by omega) (tc (fun h4 => tna g0 h1 (tna h2 (by omega) (tcn (tc (fun _ => again) (fun h5 => by rw [ha v hmem hok h4] at h5; cases h5))))) (fun _ => again))
    exact tna h0 (by omega) (tc (fun h4 => tna g0 h1 (tna h2 (by omega) (tcn (tcn (tc (fun _ => rest) (fun h5 => by rw [hl v hmem hok h4] at h5; cases h5)))))) (fun _ => rest))
theorem FL2_ {code : List Ins} {b : Bool} {live after wide : List Bool} (hc : code.length ≤ 80) (hlv : live.length = code.length) (haf : after.length = code.length) (hwd : wide.length = code.length) (hl : ∀ u : Nat, u < code.length → live.getD u false = true → ∀ v ∈ nextV code (u : Int), okN (graphV code) v → live.getD v.toNat false = true) (ha : ∀ u : Nat, u < code.length → after.getD u false = true → ∀ v ∈ nextV code (u : Int), okN (graphV code) v → after.getD v.toNat false = true)
    (hw : ∀ u : Nat, u < code.length → after.getD u false = true → wide.getD u false = true) (hb : b = true → ∀ u : Nat, u < code.length → after.getD u false = true → live.getD u false = true) {H1 : Bool → (ι → O) → O} {H2 : List Ins → List Bool → (ι → O) → O} (h : T P (H2 code live)) : ∀ {m : Nat} {i : Int}, 0 ≤ i → i ≤ (code.length : Int) → (code.length : Int) < i + m → T P (fun K => law14_FlowClosed_L2 m code b i live after wide (fun x => H1 x K) (fun x y => H2 x y K)) := by
  intro m
  induction m with
  | zero => intros; omega
  | succ m ih =>
    intro i g0 g1 g2
    have hR := rb
    have hn := nextV_len (code := code) (i := i)
    rw [law14_FlowClosed_L2]
    unfold law14_FlowClosed_L2.body
    refine tcd (fun h1 => RNext_ hc ?_) (fun _ => h)
    obtain ⟨e1, e2, e3⟩ := wi g0 h1 (by omega)
    have again : T P (fun K => law14_FlowClosed_L2 m code b (IntKind.wrap .i64 (i + 1)) live after wide (fun x => H1 x K) (fun x y => H2 x y K)) := by
      rw [e1]; exact ih (by omega) (by omega) (by omega)
    refine FL4_ (H1 := H1) (H2 := fun x y z u v w K => _) hc g0 h1 hlv haf (fun v hv hk ho => hl i.toNat (by omega) ho v (by rw [e3]; exact hv) hk) (fun v hv hk ho => ha i.toNat (by omega) ho v (by rw [e3]; exact hv) hk) ?_ (Int.le_refl _) (by omega) (by omega)
    refine tna g0 (by omega) (tc (fun h4 => tna g0 (by omega) (tcn (tcn (tc (fun _ => tc (fun h6 => tna g0 (by omega) (tcn (tc (fun _ => again) (fun h7 => by rw [hb h6 i.toNat (by omega) h4] at h7; cases h7)))) (fun _ => again)) (fun h5 => by rw [hw i.toNat (by omega) h4] at h5; cases h5))))) (fun _ => again))
theorem FlowClosed_ {code : List Ins} {l : List Int} {more : Int} {H1 : Bool → (ι → O) → O} (h : T P (H1 true)) : T P (fun K => law14_FlowClosed code l more (fun a => H1 a K)) := by
  have hR := rb
  have hg := graphV_len (code := code)
  unfold law14_FlowClosed law14_FlowClosed.body
  refine tcn (tcd (fun _ => known_c h) (fun h1 => tcd (fun _ => known_c h) (fun h2 => ?_)))
  have hc : code.length ≤ 80 := by omega
  refine Live_ hc (fun live tl => flow_After_ hc (by omega) (fun after ta => tnb (by omega) (tnb (by simp only [List.length_cons, List.length_nil]; omega) (flow_Afterv1_ hc (by simp only [List.length_append, List.length_cons, List.length_nil]; omega) (fun wide tw => ?_)))))
  have q1 : live.length = code.length := tl.1.trans hg
  have q2 : after.length = code.length := ta.1.trans hg
  have q3 : wide.length = code.length := tw.1.trans hg
  have row : ∀ {u : Nat}, u < code.length → ∀ {v : Int}, v ∈ nextV code (u : Int) → v ∈ (graphV code).getD u [] := fun hu v hv => by rw [graphV_get hu]; exact hv
  refine tcn (tcne (fun h => by omega) (fun _ => tcn (tcne (fun h => by omega) (fun _ => tcne (fun h => by omega) (fun _ => ?_)))))
  refine FL0_ (H1 := fun x y z u v K => _) hc (by omega) q1 (fun b hb => ?_) (Int.le_refl _) (by omega) (by omega) (fun _ x hx => by cases hx)
  refine FL2_ (H1 := H1) (H2 := fun x y K => _) hc q1 q2 q3 (fun u hu ho v hv hk => tl.closed (by omega) ho (row hu hv) hk) (fun u hu ho v hv hk => ta.closed (by omega) ho (row hu hv) hk) (fun u hu ho => ?_) (fun hbt u hu ho => ?_) ?_ (Int.le_refl _) (by omega) (by omega)
  · refine (tw.2 u (by omega)).2 (((ta.2 u (by omega)).1 ho).mono fun x hx => ?_)
    unfold aftV
    rw [List.flatMap_append]
    exact List.mem_append_left _ hx
  · refine (tl.2 u (by omega)).2 ?_
    refine (ta.2 u (by omega)).1 ho (fun x => Rch (graphV code) [0] x) (fun x hx hk => ?_) (fun w hw v hv hk => hw.step hv hk)
    unfold aftV at hx
    obtain ⟨y, hy, hxy⟩ := List.mem_flatMap.1 hx
    obtain ⟨⟨y0, y1⟩, hlive⟩ := hb hbt y hy
    have hyn : y.toNat < (graphV code).length := by omega
    have hr := (tl.2 y.toNat hyn).1 hlive
    refine hr.step (v := x) ?_ hk
    rw [Int.toNat_natCast]
    refine row (by omega) ?_
    rw [Int.toNat_of_nonneg y0]; exact hxy
  · refine tcn (tce (fun _ => known_c h) (fun h9 => tn (by simp only [Bool.true_and, decide_eq_true_eq]; omega) (tc (fun _ => known_c h) (fun h10 => ?_))))
    have := (tl.2 0 (by omega)).2 (Rch.base (List.mem_singleton.2 rfl) ⟨Int.le_refl _, by rw [hg]; omega⟩)
    rw [this] at h10
    cases h10
theorem Told.eq {g : List (List Int)} {l : List Int} {a b : List Bool} (h1 : Told g l a) (h2 : Told g l b) : a = b := by
  have hl : a.length = b.length := h1.1.trans h2.1.symm
  refine List.ext_getElem hl fun i ha hb => ?_
  have q1 := h1.2 i (by rw [← h1.1]; exact ha)
  have q2 := h2.2 i (by rw [← h1.1]; exact ha)
  rw [List.getD_eq_getElem?_getD, List.getElem?_eq_getElem ha] at q1
  rw [List.getD_eq_getElem?_getD, List.getElem?_eq_getElem hb] at q2
  have q3 := q1.trans q2.symm
  simp only [Option.getD_some] at q3
  cases ha2 : a[i] <;> cases hb2 : b[i] <;> rw [ha2, hb2] at q3 <;> first | rfl | (exact absurd (q3.1 rfl) (by decide)) | (exact absurd (q3.2 rfl) (by decide))
theorem Ints_ {a : List Int} (hl : a.length ≤ 1000000) {H1 : Bool → (ι → O) → O} (h : T P (H1 true)) : T P (fun K => ref01_Ints a a (fun b => H1 b K)) := by
  have hR := rb
  unfold ref01_Ints ref01_Ints.body
  refine tcne (fun h => absurd rfl h) (fun _ => ?_)
  have loop : ∀ {m : Nat} {i : Int}, 0 ≤ i → i ≤ (a.length : Int) → (a.length : Int) < i + m → T P (fun K => ref01_Ints_L0 m a a i (fun b => H1 b K) (H1 true K)) := by
    intro m
    induction m with
    | zero => intros; omega
    | succ m ih =>
      intro i g0 g1 g2
      rw [ref01_Ints_L0]
      unfold ref01_Ints_L0.body
      refine tcd (fun h1 => tna g0 h1 (tna g0 h1 (tcne (fun h => absurd rfl h) (fun _ => ?_)))) (fun _ => h)
      rw [(wi g0 h1 (by omega)).1]
      exact ih (by omega) (by omega) (by omega)
  exact loop (Int.le_refl _) (by omega) (by omega)
theorem Bools_ {a : List Bool} (hl : a.length ≤ 1000000) {H1 : Bool → (ι → O) → O} (h : T P (H1 true)) : T P (fun K => ref01_Bools a a (fun b => H1 b K)) := by
  have hR := rb
  unfold ref01_Bools ref01_Bools.body
  refine tcne (fun h => absurd rfl h) (fun _ => ?_)
  have loop : ∀ {m : Nat} {i : Int}, 0 ≤ i → i ≤ (a.length : Int) → (a.length : Int) < i + m → T P (fun K => ref01_Bools_L0 m a a i (fun b => H1 b K) (H1 true K)) := by
    intro m
    induction m with
    | zero => intros; omega
    | succ m ih =>
      intro i g0 g1 g2
      rw [ref01_Bools_L0]
      unfold ref01_Bools_L0.body
      refine tcd (fun h1 => tna g0 h1 (tna g0 h1 (tcn (tc (fun _ => ?_) (fun h => by rw [beq_self_eq_true] at h; cases h))))) (fun _ => h)
      rw [(wi g0 h1 (by omega)).1]
      exact ih (by omega) (by omega) (by omega)
  exact loop (Int.le_refl _) (by omega) (by omega)
/-! places outside -/
def badB (n : Int) (v : Int) : Bool := decide (v < 0) || decide (v ≥ n)
def rowB (n : Int) (row : List Int) : Bool := row.any (badB n)
theorem drop_any {α : Type} {f : α → Bool} {l : List α} {i : Int} {d : α} (h0 : 0 ≤ i) (h1 : i < (l.length : Int)) : (l.drop i.toNat).any f = (f (l.getD i.toNat d) || (l.drop (i.toNat + 1)).any f) := by
  rw [drop_c (d := d) h0 h1, List.any_cons]
theorem IX_ {code : List Ins} {row : List Int} (hl : row.length ≤ 1000) {H1 : Int → List Ins → (ι → O) → O} {H2 : List Ins → (ι → O) → O} (h1 : rowB (code.length : Int) row = true → ∀ j, 0 ≤ j → T P (H1 j code)) (h2 : rowB (code.length : Int) row = false → T P (H2 code)) : ∀ {m : Nat} {i : Int}, 0 ≤ i → i ≤ (row.length : Int) → (row.length : Int) < i + m → rowB (code.length : Int) (row.drop i.toNat) = rowB (code.length : Int) row → T P (fun K => slices_IndexFunc_int_int_L0 m row (row.length : Int) i code (fun a b => H1 a b K) (fun a => H2 a K)) := by
  intro m
  induction m with
  | zero => intros; omega
  | succ m ih =>
    intro i g0 g1 g2 g3
    rw [slices_IndexFunc_int_int_L0]
    unfold slices_IndexFunc_int_int_L0.body
    refine tcd (fun q => tna g0 q ?_) (fun q => ?_)
    · obtain ⟨e1, e2, e3⟩ := wi g0 q (by omega)
      unfold rowB at g3
      rw [drop_any (d := 0) g0 q] at g3
      have hit : badB (code.length : Int) (row.getD i.toNat 0) = true → T P (H1 i code) := fun hb => by
        rw [hb, Bool.true_or] at g3
        exact h1 g3.symm i g0
      have miss : badB (code.length : Int) (row.getD i.toNat 0) = false → T P (fun K => slices_IndexFunc_int_int_L0 m row (row.length : Int) (IntKind.wrap .i64 (i + 1)) code (fun a b => H1 a b K) (fun a => H2 a K)) := fun hb => by
        rw [hb, Bool.false_or] at g3
        rw [e1]
        exact ih (by omega) (by omega) (by omega) (by rw [e2]; exact g3)
      generalize row.getD i.toNat 0 = v at hit miss ⊢
      unfold flow_Checkfn1 flow_Checkfn1.body
      unfold badB at hit miss
      refine tcn (tcd (fun h => tct (hit (by rw [dt h]; rfl))) (fun h => tcd (fun h9 => hit (by rw [dt h9, Bool.or_true])) (fun h9 => miss (by rw [df h, df h9]; rfl))))
    · rw [List.drop_eq_nil_of_le (by omega)] at g3
      exact h2 g3.symm
theorem Cont_ {code : List Ins} {row : List Int} (hl : row.length ≤ 1000) {H1 : Bool → List Ins → (ι → O) → O} (h : T P (H1 (rowB (code.length : Int) row) code)) : T P (fun K => slices_ContainsFunc_int_int row code (fun a b => H1 a b K)) := by
  have hR := rb
  unfold slices_ContainsFunc_int_int slices_ContainsFunc_int_int.body slices_IndexFunc_int_int slices_IndexFunc_int_int.body
  refine IX_ (H1 := fun a b K => H1 (decide (a ≥ 0)) b K) (H2 := fun b K => H1 (decide ((-1 : Int) ≥ 0)) b K) hl (fun hb j hj => ?_) (fun hb => ?_) (Int.le_refl _) (by omega) (by omega) rfl
  · rw [hb] at h
    rw [dt hj]; exact h
  · rw [hb] at h
    exact h
def chkV (code : List Ins) : Int := if (code.length : Int) = 0 then 3 else if (code.length : Int) > 64 then 6 else if (graphV code).any (rowB (code.length : Int)) = true then 10 else 0
theorem CL1_ {code : List Ins} {ls : List (List Int)} (hl : ls.length ≤ 1000) (hr : ∀ row ∈ ls, row.length ≤ 30) {H1 : Int → (ι → O) → O} {H2 : (ι → O) → O} (h1 : ls.any (rowB (code.length : Int)) = true → T P (H1 10)) (h2 : ls.any (rowB (code.length : Int)) = false → T P H2) : ∀ {m : Nat} {i : Int}, 0 ≤ i → i ≤ (ls.length : Int) → (ls.length : Int) < i + m → (ls.drop i.toNat).any (rowB (code.length : Int)) = ls.any (rowB (code.length : Int)) → T P (fun K => flow_Check_L1 m (ls.length : Int) i code ls (fun a => H1 a K) (H2 K)) := by
  intro m
  induction m with
  | zero => intros; omega
  | succ m ih =>
    intro i g0 g1 g2 g3
    rw [flow_Check_L1]
    unfold flow_Check_L1.body
    refine tcd (fun q => tna g0 q (Cont_ ?_ ?_)) (fun q => ?_)
    · exact Nat.le_trans (getD_all (p := fun r : List Int => r.length ≤ 30) hr (by decide) _) (by decide)
    · obtain ⟨e1, e2, e3⟩ := wi g0 q (by omega)
      rw [drop_any (d := []) g0 q] at g3
      refine tc (fun hb => ?_) (fun hb => ?_)
      · rw [hb, Bool.true_or] at g3
        exact h1 g3.symm
      · rw [hb, Bool.false_or] at g3
        rw [e1]
        exact ih (by omega) (by omega) (by omega) (by rw [e2]; exact g3)
    · rw [List.drop_eq_nil_of_le (by omega)] at g3
      exact h2 g3.symm
theorem Check_ {code : List Ins} (hc : code.length ≤ 80) {H1 : Int → (ι → O) → O} (h : T P (H1 (chkV code))) : T P (fun K => flow_Check code (fun a => H1 a K)) := by
  have hR := rb
  have hg := graphV_len (code := code)
  unfold flow_Check flow_Check.body
  unfold chkV at h
  refine tce (fun q => by rw [if_pos q] at h; exact h) (fun q => tcd (fun q2 => by rw [if_neg q, if_pos q2] at h; exact h) (fun q2 => ?_))
  rw [if_neg q, if_neg q2] at h
  refine graph_ hc (H1 := fun ls K => flow_Check_L1 ROUNDS (ls.length : Int) 0 code ls (fun a => H1 a K) (H1 0 K)) ?_
  exact CL1_ (H1 := H1) (H2 := H1 0) (by omega) graphV_row (fun hb => by rw [if_pos hb] at h; exact h) (fun hb => by rw [if_neg (by rw [hb]; decide)] at h; exact h) (Int.le_refl _) (by omega) (by omega) rfl
theorem RL2_ {code : List Ins} {i : Int} {row : List Int} (hl : row.length ≤ 1000) {H1 : Int → (ι → O) → O} {H2 : List Ins → Int → (ι → O) → O} (h1 : rowB (code.length : Int) row = true → T P (H1 10)) (h2 : rowB (code.length : Int) row = false → T P (H2 code i)) : ∀ {m : Nat} {k : Int}, 0 ≤ k → k ≤ (row.length : Int) → (row.length : Int) < k + m → rowB (code.length : Int) (row.drop k.toNat) = rowB (code.length : Int) row → T P (fun K => ref14_Check_L0_L2 m code i k row (fun a => H1 a K) (fun a b => H2 a b K)) := by
  intro m
  induction m with
  | zero => intros; omega
  | succ m ih =>
    intro k g0 g1 g2 g3
    rw [ref14_Check_L0_L2]
    unfold ref14_Check_L0_L2.body
    refine tcd (fun q => tna g0 q ?_) (fun q => ?_)
    · obtain ⟨e1, e2, e3⟩ := wi g0 q (by omega)
      unfold rowB at g3
      rw [drop_any (d := 0) g0 q] at g3
      have hit : badB (code.length : Int) (row.getD k.toNat 0) = true → T P (H1 10) := fun hb => by
        rw [hb, Bool.true_or] at g3
        exact h1 g3.symm
      have miss : badB (code.length : Int) (row.getD k.toNat 0) = false → T P (fun K => ref14_Check_L0_L2 m code i (IntKind.wrap .i64 (k + 1)) row (fun a => H1 a K) (fun a b => H2 a b K)) := fun hb => by
        rw [hb, Bool.false_or] at g3
        rw [e1]
        exact ih (by omega) (by omega) (by omega) (by rw [e2]; exact g3)
      generalize row.getD k.toNat 0 = v at hit miss ⊢
      unfold badB at hit miss
      refine tcn (tcd (fun h => hit (by rw [dt h]; rfl)) (fun h => tna g0 q (tcd (fun h9 => hit (by rw [dt h9, Bool.or_true])) (fun h9 => miss (by rw [df h, df h9]; rfl)))))
    · rw [List.drop_eq_nil_of_le (by omega)] at g3
      exact h2 g3.symm
theorem RL0_ {code : List Ins} (hc : code.length ≤ 80) {H1 : Int → (ι → O) → O} {H2 : (ι → O) → O} (h1 : (graphV code).any (rowB (code.length : Int)) = true → T P (H1 10)) (h2 : (graphV code).any (rowB (code.length : Int)) = false → T P H2) : ∀ {m : Nat} {i : Int}, 0 ≤ i → i ≤ (code.length : Int) → (code.length : Int) < i + m → ((graphV code).drop i.toNat).any (rowB (code.length : Int)) = (graphV code).any (rowB (code.length : Int)) → T P (fun K => ref14_Check_L0 m code i (fun a => H1 a K) (H2 K)) := by
  intro m
  induction m with
  | zero => intros; omega
  | succ m ih =>
    intro i g0 g1 g2 g3
    have hR := rb
    have hg := graphV_len (code := code)
    have hn := nextV_len (code := code) (i := i)
    rw [ref14_Check_L0]
    unfold ref14_Check_L0.body
    refine tcd (fun q => RNext_ hc ?_) (fun q => ?_)
    · obtain ⟨e1, e2, e3⟩ := wi g0 q (by omega)
      rw [drop_any (d := []) g0 (by omega), graphV_get (by omega), e3] at g3
      refine RL2_ (H1 := H1) (H2 := fun a b K => ref14_Check_L0 m a (IntKind.wrap .i64 (b + 1)) (fun a => H1 a K) (H2 K)) (by omega) (fun hb => ?_) (fun hb => ?_) (Int.le_refl _) (by omega) (by omega) rfl
      · rw [hb, Bool.true_or] at g3
        exact h1 g3.symm
      · rw [hb, Bool.false_or] at g3
        rw [e1]
        exact ih (by omega) (by omega) (by omega) (by rw [e2]; exact g3)
    · rw [List.drop_eq_nil_of_le (by omega)] at g3
      exact h2 g3.symm
theorem RCheck_ {code : List Ins} (hc : code.length ≤ 80) {H1 : Int → (ι → O) → O} (h : T P (H1 (chkV code))) : T P (fun K => ref14_Check code (fun a => H1 a K)) := by
  have hR := rb
  unfold ref14_Check ref14_Check.body
  unfold chkV at h
  refine tce (fun q => by rw [if_pos q] at h; exact h) (fun q => tcd (fun q2 => by rw [if_neg q, if_pos q2] at h; exact h) (fun q2 => ?_))
  rw [if_neg q, if_neg q2] at h
  exact RL0_ (H1 := H1) (H2 := H1 0) hc (fun hb => by rw [if_pos hb] at h; exact h) (fun hb => by rw [if_neg (by rw [hb]; decide)] at h; exact h) (Int.le_refl _) (by omega) (by omega) rfl
/-! the document's reach: round by round -/
def Mon (a b : List Bool) : Prop := a.length = b.length ∧ ∀ v : Nat, a.getD v false = true → b.getD v false = true
theorem Mon.refl {a : List Bool} : Mon a a := ⟨rfl, fun _ h => h⟩
theorem Mon.trans {a b c : List Bool} (h1 : Mon a b) (h2 : Mon b c) : Mon a c := ⟨h1.1.trans h2.1, fun v h => h2.2 v (h1.2 v h)⟩
theorem Mon.set {a : List Bool} {i : Nat} : Mon a (a.set i true) := ⟨by rw [List.length_set], fun v hv => by
  rw [set_getD]
  split
  · rfl
  · exact hv⟩
theorem mon_cf : ∀ {a b : List Bool}, Mon a b → cf b ≤ cf a ∧ (cf b = cf a → a = b)
  | [], b, h => by
    have : b = [] := List.eq_nil_of_length_eq_zero h.1.symm
    subst this
    exact ⟨Nat.le_refl _, fun _ => rfl⟩
  | x :: r, [], h => by cases h.1
  | x :: r, y :: q, h => by
    have ht : Mon r q := ⟨by simpa using h.1, fun v hv => by simpa using h.2 (v + 1) (by simpa using hv)⟩
    have hx := h.2 0
    obtain ⟨h1, h2⟩ := mon_cf ht
    rw [cf, cf]
    cases x <;> cases y
    · simp only [Bool.false_eq_true, if_false]
      exact ⟨by omega, fun e => by rw [h2 (by omega)]⟩
    · simp only [Bool.false_eq_true, if_false, if_true]
      exact ⟨by omega, fun e => by omega⟩
    · have h3 : false = true := hx rfl
      cases h3
    · simp only [if_true]
      exact ⟨by omega, fun e => by rw [h2 (by omega)]⟩
/-- sound, and with the beginnings -/
structure RI (g : List (List Int)) (l : List Int) (out : List Bool) : Prop where
  len : out.length = g.length
  snd : ∀ v : Nat, out.getD v false = true → Rch g l (v : Int)
  bas : ∀ x ∈ l, okN g x → out.getD x.toNat false = true
def Cl (g : List (List Int)) (out out' : List Bool) (a : Nat) : Prop := out.getD a false = true → ∀ v ∈ g.getD a [], okN g v → out'.getD v.toNat false = true
theorem RI.told {g : List (List Int)} {l : List Int} {out : List Bool} (h : RI g l out) (hc : ∀ a : Nat, a < g.length → Cl g out out a) : Told g l out := by
  refine ⟨h.len, fun v hv => ⟨h.snd v, fun hr => ?_⟩⟩
  have := hr (fun x => okN g x ∧ out.getD x.toNat false = true) (fun x hx hk => ⟨hk, h.bas x hx hk⟩) (fun u hu w hw hk => by
    have u0 : 0 ≤ u := hu.1.1
    have u1 : u < (g.length : Int) := hu.1.2
    exact ⟨hk, hc u.toNat (by omega) hu.2 w hw hk⟩)
  rw [Int.toNat_natCast] at this
  exact this.2
theorem RI.set {g : List (List Int)} {l : List Int} {out : List Bool} (h : RI g l out) {x : Int} (hk : okN g x) (hr : Rch g l x) : RI g l (out.set x.toNat true) := by
  have x0 : 0 ≤ x := hk.1
  refine ⟨by rw [List.length_set]; exact h.len, fun v hv => ?_, fun y hy hky => Mon.set.2 _ (h.bas y hy hky)⟩
  rw [set_getD] at hv
  split at hv
  · rename_i he
    rw [← he.1, Int.toNat_of_nonneg x0]; exact hr
  · exact h.snd v hv
theorem set_me {out : List Bool} {x : Int} (h0 : 0 ≤ x) (h1 : x < (out.length : Int)) : (out.set x.toNat true).getD x.toNat false = true := by rw [set_getD, if_pos ⟨rfl, by omega⟩]
theorem R6_ {g : List (List Int)} {l : List Int} (hr : ∀ row ∈ g, row.length ≤ 30) {r a : Int} (ha : okN g a) {out0 : List Bool} {H1 : List (List Int) → Int → Int → List Bool → (ι → O) → O} (h1 : ∀ out', RI g l out' → Mon out0 out' → Cl g out0 out' a.toNat → T P (H1 g r a out')) : ∀ {m : Nat} {i : Int} {out : List Bool}, RI g l out → Mon out0 out → 0 ≤ i → ((g.getD a.toNat []).length : Int) < i + m → i ≤ ((g.getD a.toNat []).length : Int) → (∀ v ∈ (g.getD a.toNat []).take i.toNat, okN g v → out.getD v.toNat false = true) → T P (fun K => ref10_Reach_L2_L4_L6 m g r a i out (fun x y z u => H1 x y z u K)) := by
  intro m
  have a0 : 0 ≤ a := ha.1
  have a1 : a < (g.length : Int) := ha.2
  have hrow : (g.getD a.toNat []).length ≤ 30 := getD_all (p := fun r : List Int => r.length ≤ 30) hr (by decide) _
  induction m with
  | zero => intros; omega
  | succ m ih =>
    intro i out hi hm g0 g1 g2 g3
    have hlen := hi.len
    rw [ref10_Reach_L2_L4_L6]
    unfold ref10_Reach_L2_L4_L6.body
    refine tna a0 (by omega) (tc (fun hb => tna a0 a1 (tcd (fun q => ?_) (fun q => ?_))) (fun hb => ?_))
    · obtain ⟨e1, e2, e3⟩ := wi g0 q (by omega)
      rw [e1]
      have hmem : (g.getD a.toNat []).getD i.toNat 0 ∈ g.getD a.toNat [] := by
        rw [List.getD_eq_getElem?_getD (l := g.getD a.toNat []), List.getElem?_eq_getElem (by omega)]
        exact List.getElem_mem _
      have htake : (g.getD a.toNat []).take (i.toNat + 1) = (g.getD a.toNat []).take i.toNat ++ [(g.getD a.toNat []).getD i.toNat 0] := by
        rw [List.take_add_one, List.getD_eq_getElem?_getD (l := g.getD a.toNat []), List.getElem?_eq_getElem (show i.toNat < (g.getD a.toNat []).length by omega)]
        rfl
      have skip : ¬ okN g ((g.getD a.toNat []).getD i.toNat 0) → T P (fun K => ref10_Reach_L2_L4_L6 m g r a (i + 1) out (fun x y z u => H1 x y z u K)) := fun hno => ih hi hm (by omega) (by omega) (by omega) (fun v hv hk => by
        rw [e2, htake] at hv
        rcases List.mem_append.1 hv with hv | hv
        · exact g3 v hv hk
        · rw [List.mem_singleton.1 hv] at hk
          exact absurd hk hno)
      refine tna a0 a1 (tna g0 q (tcd (fun h2 => tna a0 a1 (tna g0 q (tcd (fun h3 => tna a0 a1 (tna g0 q (tna h2 (by omega) ?_))) (fun h3 => skip fun hk => h3 hk.2)))) (fun h2 => skip fun hk => h2 hk.1)))
      have hk : okN g ((g.getD a.toNat []).getD i.toNat 0) := ⟨h2, h3⟩
      have hrch : Rch g l ((g.getD a.toNat []).getD i.toNat 0) := by
        have := hi.snd a.toNat hb
        rw [Int.toNat_of_nonneg a0] at this
        exact this.step hmem hk
      refine ih (hi.set hk hrch) (hm.trans Mon.set) (by omega) (by omega) (by omega) (fun v hv hkv => ?_)
      rw [e2, htake] at hv
      rcases List.mem_append.1 hv with hv | hv
      · exact Mon.set.2 _ (g3 v hv hkv)
      · rw [List.mem_singleton.1 hv]
        exact set_me h2 (by omega)
    · rw [List.take_of_length_le (by omega)] at g3
      exact h1 out hi hm (fun _ v hv hk => g3 v hv hk)
    · exact h1 out hi hm (fun ho => by rw [hm.2 _ ho] at hb; cases hb)
theorem R4_ {g : List (List Int)} {l : List Int} (hg : g.length ≤ 1000) (hr : ∀ row ∈ g, row.length ≤ 30) {r : Int} {out0 : List Bool} {H1 : List (List Int) → Int → List Bool → (ι → O) → O} (h1 : ∀ out', RI g l out' → Mon out0 out' → (∀ a : Nat, a < g.length → Cl g out0 out' a) → T P (H1 g r out')) : ∀ {m : Nat} {a : Int} {out : List Bool}, RI g l out → Mon out0 out → 0 ≤ a → a ≤ (g.length : Int) → (g.length : Int) < a + m → (∀ b : Nat, (b : Int) < a → Cl g out0 out b) → T P (fun K => ref10_Reach_L2_L4 m g r a out (fun x y z => H1 x y z K)) := by
  intro m
  induction m with
  | zero => intros; omega
  | succ m ih =>
    intro a out hi hm g0 g1 g2 g3
    have hR := rb
    rw [ref10_Reach_L2_L4]
    unfold ref10_Reach_L2_L4.body
    refine tcd (fun q => ?_) (fun q => h1 out hi hm (fun b hb => g3 b (by omega)))
    obtain ⟨e1, e2, e3⟩ := wi g0 q (by omega)
    have hrow : (g.getD a.toNat []).length ≤ 30 := getD_all (p := fun r : List Int => r.length ≤ 30) hr (by decide) _
    refine R6_ (H1 := fun x y z u K => ref10_Reach_L2_L4 m x y (IntKind.wrap .i64 (z + 1)) u (fun x y z => H1 x y z K)) hr ⟨g0, q⟩ (out0 := out) (fun out' hi' hm' hc => ?_) hi Mon.refl (Int.le_refl _) (by omega) (by omega) (fun v hv => by cases hv)
    rw [e1]
    refine ih hi' (hm.trans hm') (by omega) (by omega) (by omega) (fun b hb ho v hv hk => ?_)
    by_cases hba : (b : Int) < a
    · exact hm'.2 _ (g3 b hba ho v hv hk)
    · have : b = a.toNat := by omega
      subst this
      exact hc (hm.2 _ ho) v hv hk
theorem cf_all : ∀ {l : List Bool}, cf l = 0 → ∀ v : Nat, v < l.length → l.getD v false = true
  | [], _, v, h => by cases h
  | b :: r, h, v, hv => by
    rw [cf] at h
    cases b with
    | false => simp at h
    | true =>
      cases v with
      | zero => rfl
      | succ v => simpa using cf_all (l := r) (by simpa using h) v (by simpa using hv)
theorem R2_ {g : List (List Int)} {l : List Int} (hg : g.length ≤ 1000) (hr : ∀ row ∈ g, row.length ≤ 30) {H1 : List Bool → (ι → O) → O} (h1 : ∀ out, Told g l out → T P (H1 out)) : ∀ {m : Nat} {n : Int} {out : List Bool}, RI g l out → 0 ≤ n → n ≤ (g.length : Int) → (g.length : Int) < n + m → ((∀ a : Nat, a < g.length → Cl g out out a) ∨ (cf out : Int) + n ≤ (g.length : Int)) → T P (fun K => ref10_Reach_L2 m g n out (fun x => H1 x K)) := by
  intro m
  induction m with
  | zero => intros; omega
  | succ m ih =>
    intro n out hi g0 g1 g2 g3
    have hR := rb
    rw [ref10_Reach_L2]
    unfold ref10_Reach_L2.body
    refine tcd (fun q => ?_) (fun q => ?_)
    · obtain ⟨e1, e2, e3⟩ := wi g0 q (by omega)
      refine R4_ (H1 := fun x y z K => ref10_Reach_L2 m x (IntKind.wrap .i64 (y + 1)) z (fun x => H1 x K)) hg hr (out0 := out) (fun out' hi' hm hc => ?_) hi Mon.refl (Int.le_refl _) (by omega) (by omega) (fun b hb => by omega)
      rw [e1]
      obtain ⟨c1, c2⟩ := mon_cf hm
      refine ih hi' (by omega) (by omega) (by omega) ?_
      by_cases hcf : cf out' = cf out
      · have := c2 hcf
        subst this
        exact .inl hc
      · rcases g3 with g3 | g3
        · refine .inl fun a ha ho v hv hk => ?_
          have hk0 : 0 ≤ v := hk.1
          have hsame : ∀ u : Nat, u < g.length → out'.getD u false = true → Told g l out := fun _ _ _ => hi.told g3
          have ht := hsame a ha ho
          have h5 := (ht.2 a ha).2 (hi'.snd a ho)
          exact hc a ha h5 v hv hk
        · exact .inr (by omega)
    · rcases g3 with g3 | g3
      · exact h1 out (hi.told g3)
      · have h0 : cf out = 0 := by omega
        refine h1 out (hi.told fun a ha ho v hv hk => ?_)
        have k1 : v < (g.length : Int) := hk.2
        have k0 : 0 ≤ v := hk.1
        exact cf_all h0 v.toNat (by rw [hi.len]; omega)
theorem R0_ {g : List (List Int)} {l : List Int} (hl : l.length ≤ 1000) {H1 : List (List Int) → List Bool → (ι → O) → O} (h1 : ∀ out, RI g l out → T P (H1 g out)) : ∀ {m : Nat} {i : Int} {out : List Bool}, 0 ≤ i → i ≤ (l.length : Int) → (l.length : Int) < i + m → out.length = g.length → (∀ v : Nat, out.getD v false = true → Rch g l (v : Int)) → (∀ x ∈ l.take i.toNat, okN g x → out.getD x.toNat false = true) → T P (fun K => ref10_Reach_L0 m g l i out (fun x y => H1 x y K)) := by
  intro m
  induction m with
  | zero => intros; omega
  | succ m ih =>
    intro i out g0 g1 g2 hlen hsnd g3
    rw [ref10_Reach_L0]
    unfold ref10_Reach_L0.body
    refine tcd (fun q => ?_) (fun q => ?_)
    · obtain ⟨e1, e2, e3⟩ := wi g0 q (by omega)
      rw [e1]
      have hmem : l.getD i.toNat 0 ∈ l := by
        rw [List.getD_eq_getElem?_getD, List.getElem?_eq_getElem (by omega)]
        exact List.getElem_mem _
      have htake : l.take (i.toNat + 1) = l.take i.toNat ++ [l.getD i.toNat 0] := by
        rw [List.take_add_one, List.getD_eq_getElem?_getD, List.getElem?_eq_getElem (show i.toNat < l.length by omega)]
        rfl
      have skip : ¬ okN g (l.getD i.toNat 0) → T P (fun K => ref10_Reach_L0 m g l (i + 1) out (fun x y => H1 x y K)) := fun hno => ih (by omega) (by omega) (by omega) hlen hsnd (fun v hv hk => by
        rw [e2, htake] at hv
        rcases List.mem_append.1 hv with hv | hv
        · exact g3 v hv hk
        · rw [List.mem_singleton.1 hv] at hk
          exact absurd hk hno)
      refine tna g0 q (tcd (fun h2 => tna g0 q (tcd (fun h3 => tna g0 q (tna h2 (by omega) ?_)) (fun h3 => skip fun hk => h3 hk.2))) (fun h2 => skip fun hk => h2 hk.1))
      have hk : okN g (l.getD i.toNat 0) := ⟨h2, h3⟩
      refine ih (by omega) (by omega) (by omega) (by rw [List.length_set]; exact hlen) (fun v hv => ?_) (fun v hv hkv => ?_)
      · rw [set_getD] at hv
        split at hv
        · rename_i he
          rw [← he.1, Int.toNat_of_nonneg h2]
          exact Rch.base hmem hk
        · exact hsnd v hv
      · rw [e2, htake] at hv
        rcases List.mem_append.1 hv with hv | hv
        · exact Mon.set.2 _ (g3 v hv hkv)
        · rw [List.mem_singleton.1 hv]
          exact set_me h2 (by omega)
    · rw [List.take_of_length_le (by omega)] at g3
      exact h1 out ⟨hlen, hsnd, g3⟩
theorem RReach_ {g : List (List Int)} {l : List Int} (hg : g.length ≤ 100) (hr : ∀ row ∈ g, row.length ≤ 30) (hl : l.length ≤ 1000) {H1 : List Bool → (ι → O) → O} (h1 : ∀ out, Told g l out → T P (H1 out)) : T P (fun K => ref10_Reach g l (fun a => H1 a K)) := by
  have hR := rb
  unfold ref10_Reach ref10_Reach.body
  have hz : ∀ v : Nat, (List.replicate g.length false).getD v false = false := fun v => by rw [List.getD_eq_getElem?_getD, List.getElem?_replicate]; split <;> rfl
  refine tn (by simp only [Int.toNat_natCast, Bool.and_eq_true, decide_eq_true_eq]; exact ⟨⟨by omega, trivial⟩, ble_t (by omega)⟩) ?_
  rw [Int.toNat_natCast]
  refine R0_ (H1 := fun x y K => ref10_Reach_L2 ROUNDS x 0 y (fun a => H1 a K)) hl (fun out hi => ?_) (Int.le_refl _) (by omega) (by omega) (by rw [List.length_replicate]) (fun v hv => by rw [hz v] at hv; cases hv) (fun x hx => by cases hx)
  have hc := cf_le out
  have hlen := hi.len
  exact R2_ (by omega) hr h1 hi (Int.le_refl _) (by omega) (by omega) (.inr (by omega))
theorem RgraphL_ {code : List Ins} (hl : code.length ≤ 80) {H1 : List (List Int) → (ι → O) → O} (h : T P (H1 (graphV code))) : ∀ {m : Nat} {i : Int} {ls : List (List Int)}, 0 ≤ i → i ≤ (code.length : Int) → (code.length : Int) < i + m → ls = (graphV code).take i.toNat → T P (fun K => ref14_Graph_L0 m code i ls (fun x => H1 x K)) := by
  intro m
  induction m with
  | zero => intros; omega
  | succ m ih =>
    intro i ls g0 g1 g2 g3
    have hgl := graphV_len (code := code)
    rw [ref14_Graph_L0]
    unfold ref14_Graph_L0.body
    refine tcd (fun h1 => RNext_ hl ?_) (fun h1 => ?_)
    · obtain ⟨e1, e2, e3⟩ := wi g0 h1 (by omega)
      have hls : ls.length ≤ 80 := by rw [g3, List.length_take]; omega
      refine tnb (by simp only [List.length_cons, List.length_nil]; omega) ?_
      rw [e1]
      refine ih (by omega) (by omega) (by omega) ?_
      rw [e2, List.take_add_one, ← g3]
      congr 1
      have : (graphV code)[i.toNat]? = some (nextV code i) := by
        have hg := graphV_get (code := code) (u := i.toNat) (by omega)
        rw [List.getD_eq_getElem?_getD, e3] at hg
        rw [List.getElem?_eq_getElem (by omega)] at hg ⊢
        exact congrArg some hg
      rw [this]
      rfl
    · rw [List.take_of_length_le (by omega)] at g3
      rw [g3]; exact h
theorem Rgraph_ {code : List Ins} (hl : code.length ≤ 80) {H1 : List (List Int) → (ι → O) → O} (h : T P (H1 (graphV code))) : T P (fun K => ref14_Graph code (fun x => H1 x K)) := by
  have := rb
  unfold ref14_Graph ref14_Graph.body
  exact RgraphL_ hl h (Int.le_refl _) (by omega) (by omega) rfl
theorem RAL_ {code : List Ins} (hl : code.length ≤ 80) {l : List Int} (hm : l.length ≤ 100) {H1 : List Ins → List Int → (ι → O) → O} (h : T P (H1 code (aftV code l))) : ∀ {m : Nat} {i : Int} {ws : List Int}, 0 ≤ i → i ≤ (l.length : Int) → (l.length : Int) < i + m → (ws.length : Int) ≤ 2 * i → ws ++ aftV code (l.drop i.toNat) = aftV code l → T P (fun K => ref14_After_L0 m code l i ws (fun a b => H1 a b K)) := by
  intro m
  induction m with
  | zero => intros; omega
  | succ m ih =>
    intro i ws g0 g1 g2 g3 g4
    rw [ref14_After_L0]
    unfold ref14_After_L0.body
    refine tcd (fun h1 => ?_) (fun h1 => ?_)
    · obtain ⟨e1, e2, e3⟩ := wi g0 h1 (by omega)
      have hn := nextV_len (code := code) (i := l.getD i.toNat 0)
      rw [drop_c (d := 0) g0 h1] at g4
      refine tna g0 h1 (RNext_ hl (tnb (by omega) ?_))
      rw [e1]
      refine ih (by omega) (by omega) (by omega) (by rw [List.length_append]; omega) ?_
      rw [e2, List.append_assoc]
      exact g4
    · rw [List.drop_eq_nil_of_le (by omega)] at g4
      have : ws = aftV code l := by rw [← g4]; exact (List.append_nil ws).symm
      rw [this]; exact h
theorem RAfter_ {code : List Ins} (hl : code.length ≤ 80) {l : List Int} (hm : l.length ≤ 100) {H1 : List Bool → (ι → O) → O} (h : ∀ out, Told (graphV code) (aftV code l) out → T P (H1 out)) : T P (fun K => ref14_After code l (fun a => H1 a K)) := by
  have := rb
  have hg := graphV_len (code := code)
  have ha := aftV_len (code := code) (l := l)
  unfold ref14_After ref14_After.body
  exact RAL_ hl hm (H1 := fun x ys K => ref14_Graph x fun ls => ref10_Reach ls ys fun out => H1 out K) (Rgraph_ hl (RReach_ (by omega) graphV_row (by omega) h)) (Int.le_refl _) (by omega) (by omega) (by show (0 : Int) ≤ 0; omega) rfl
theorem RLive_ {code : List Ins} (hl : code.length ≤ 80) {H1 : List Bool → (ι → O) → O} (h : ∀ out, Told (graphV code) [0] out → T P (H1 out)) : T P (fun K => ref14_Live code (fun a => H1 a K)) := by
  have hg := graphV_len (code := code)
  unfold ref14_Live ref14_Live.body
  exact Rgraph_ hl (H1 := fun ls K => ref10_Reach ls [0] fun out => H1 out K) (RReach_ (by omega) graphV_row (by decide) h)
theorem FlowTells_ {code : List Ins} {l : List Int} {i : Int} {H1 : Bool → (ι → O) → O} (h : T P (H1 true)) : T P (fun K => law14_FlowTells code l i (fun a => H1 a K)) := by
  have hg := graphV_len (code := code)
  have hn := nextV_len (code := code) (i := i)
  unfold law14_FlowTells law14_FlowTells.body
  refine tcn (tcd (fun _ => known_c h) (fun h1 => tcd (fun _ => known_c h) (fun h2 => ?_)))
  have hc : code.length ≤ 80 := by omega
  refine Next_ hc (RNext_ hc (Ints_ (by omega) (tct (Check_ hc (RCheck_ hc (tce (fun _ => ?_) (fun h => absurd rfl h)))))))
  refine Live_ hc (fun a ta => RLive_ hc (fun b tb => ?_))
  have e1 := ta.eq tb
  subst e1
  have la := ta.1
  refine Bools_ (by omega) (tct (flow_After_ hc (by omega) (fun c tc' => RAfter_ hc (by omega) (fun d td => ?_))))
  have e2 := tc'.eq td
  subst e2
  have lc := tc'.1
  exact Bools_ (by omega) (tct (known_c h))
theorem holds (code : List Ins) (l : List Int) (i : Int) (h0 : okD Ty2 code) (h1 : okD Ty0 l) (h2 : okD (.int .i64) i) : law14_FlowTells code l i (fun y => some y) = some true :=
  (FlowTells_ (ι := Bool) (P := fun b => b = true) (H1 := fun a K => K a) (T.leaf rfl)).use (K := fun y => some y) (fun i hi => congrArg some hi)

end Go.Proofs.Ytcbginlfeefpoaa.flowTells
