/- What the plain functions answer: the law, without program or memory. -/
import Derived.Test.YteanpakahlkhdaaGreatMC
import Derived.IntWalk
import Derived.Laws.Strings
namespace Go.Proofs.YteanpakahlkhdaaGreat.funChecks
open Go.AX Go.Proofs.YteanpakahlkhdaaGreat.c
set_option linter.unusedVariables false
set_option linter.unusedSimpArgs false
theorem cond_ite (b : Bool) (x y : Option Bool) : cond_ b x y = if b = true then x else y := by cases b <;> rfl
@[simp] theorem cond_t (x y : Option Bool) : cond_ true x y = x := (cond_ite true x y).trans (if_pos rfl)
@[simp] theorem cond_f (x y : Option Bool) : cond_ false x y = y := (cond_ite false x y).trans (if_neg (by decide))
theorem cond_pos {b : Bool} {x y : Option Bool} (h : b = true) : cond_ b x y = x := by rw [h]; rfl
theorem cond_neg {b : Bool} {x y : Option Bool} (h : b = false) : cond_ b x y = y := by rw [h]; rfl
@[simp] theorem meet_self (x : Option Bool) : meet x x = x := by
  cases x with
  | none => rfl
  | some a => simp [meet]
theorem w64 {n : Int} (h1 : -9223372036854775808 ≤ n) (h2 : n ≤ 9223372036854775807) : IntKind.wrap .i64 n = n := IntWalk.i64_in n ⟨h1, h2⟩
theorem w8 {n : Int} (h1 : 0 ≤ n) (h2 : n ≤ 255) : IntKind.wrap .u8 n = n := IntWalk.u8_in n ⟨h1, h2⟩
theorem wu64 {n : Int} (h1 : 0 ≤ n) (h2 : n ≤ 18446744073709551615) : IntKind.wrap .u64 n = n := IntWalk.u64_in n ⟨h1, h2⟩
theorem ble_t {a b : Nat} (h : a ≤ b) : Nat.ble a b = true := by rw [Nat.ble_eq]; exact h
theorem ok64 {n : Int} (h : okD (.int .i64) n) : -9223372036854775808 ≤ n ∧ n ≤ 9223372036854775807 := by
  have := okD_int.1 h
  simpa [Lit.wf, IntKind.min, IntKind.max, IntKind.bits, IntKind.signed, i_] using this
theorem not_t {p : Prop} [Decidable p] (h : ¬p) : (!decide p) = true := by simp [h]
theorem not_f {p : Prop} [Decidable p] (h : p) : (!decide p) = false := by simp [h]
theorem cond_congr {b c : Bool} (h : b = c) (x y : Option Bool) : cond_ b x y = cond_ c x y := by rw [h]
attribute [local congr] cond_congr
theorem dt {p : Prop} [Decidable p] (h : p) : decide p = true := decide_eq_true h
theorem df {p : Prop} [Decidable p] (h : ¬p) : decide p = false := decide_eq_false h
theorem ieqt {a b : Int} (h : a = b) : (a == b) = true := by simp [h]
theorem ieqf {a b : Int} (h : a ≠ b) : (a == b) = false := by simp [h]
theorem inet {a b : Int} (h : a ≠ b) : (a != b) = true := by simp [h]
theorem inef {a b : Int} (h : a = b) : (a != b) = false := by simp [h]
theorem ble_f {a b : Nat} (h : b < a) : Nat.ble a b = false := by
  cases hb : Nat.ble a b with
  | false => rfl
  | true => rw [Nat.ble_eq] at hb; omega
theorem rounds_ : ∃ R, ROUNDS = R ∧ 1000000000 ≤ R := ⟨ROUNDS, rfl, by unfold ROUNDS; omega⟩
theorem dTrue {i : Decidable True} : decide True = true := dt trivial
theorem dFalse {i : Decidable False} : decide False = false := df fun h => h
theorem if_iff {α : Type} {p q : Prop} [Decidable p] [Decidable q] (h : p ↔ q) (a b : α) : (if p then a else b) = (if q then a else b) := by
  by_cases hp : p
  · rw [if_pos hp, if_pos (h.1 hp)]
  · rw [if_neg hp, if_neg (fun g => hp (h.2 g))]
theorem rb : 1000000000 ≤ ROUNDS := by unfold ROUNDS; omega
abbrev O := Option Bool
/-- it ends: with one of some, whatever comes behind -/
def T {ι : Type} (P : ι → Prop) (F : (ι → O) → O) : Prop := ∃ i, P i ∧ ∀ K, F K = K i
variable {ι : Type} {P : ι → Prop}
theorem T.leaf {i : ι} (h : P i) : T P (fun K => K i) := ⟨i, h, fun _ => rfl⟩
theorem tc {b : Bool} {F G : (ι → O) → O} (h1 : b = true → T P F) (h2 : b = false → T P G) : T P (fun K => cond_ b (F K) (G K)) := by
  cases b with
  | true => simp only [cond_t]; exact h1 rfl
  | false => simp only [cond_f]; exact h2 rfl
theorem tct {F G : (ι → O) → O} (h : T P F) : T P (fun K => cond_ true (F K) (G K)) := by simp only [cond_t]; exact h
theorem tcf {F G : (ι → O) → O} (h : T P G) : T P (fun K => cond_ false (F K) (G K)) := by simp only [cond_f]; exact h
theorem tcn {b : Bool} {F G : (ι → O) → O} (h : T P (fun K => cond_ b (G K) (F K))) : T P (fun K => cond_ (!b) (F K) (G K)) := by
  cases b with
  | true => simpa using h
  | false => simpa using h
theorem tcd {p : Prop} [Decidable p] {F G : (ι → O) → O} (h1 : p → T P F) (h2 : ¬p → T P G) : T P (fun K => cond_ (decide p) (F K) (G K)) := tc (fun h => h1 (of_decide_eq_true h)) (fun h => h2 (of_decide_eq_false h))
theorem tce {a b : Int} {F G : (ι → O) → O} (h1 : a = b → T P F) (h2 : a ≠ b → T P G) : T P (fun K => cond_ (a == b) (F K) (G K)) := tc (fun h => h1 (by simpa using h)) (fun h => h2 (by simpa using h))
theorem tcne {a b : Int} {F G : (ι → O) → O} (h1 : a ≠ b → T P F) (h2 : a = b → T P G) : T P (fun K => cond_ (a != b) (F K) (G K)) := tc (fun h => h1 (by simpa using h)) (fun h => h2 (by simpa using h))
theorem tn {b : Bool} {F : (ι → O) → O} (h : b = true) (h1 : T P F) : T P (fun K => cond_ b (F K) none) := by rw [h]; exact tct h1
theorem tna {p q : Prop} [Decidable p] [Decidable q] {F : (ι → O) → O} (hp : p) (hq : q) (h1 : T P F) : T P (fun K => cond_ (decide p && decide q) (F K) none) := tn (by simp [hp, hq]) h1
theorem tnb {a b : Nat} {F : (ι → O) → O} (h : a ≤ b) (h1 : T P F) : T P (fun K => cond_ (Nat.ble a b) (F K) none) := tn (ble_t h) h1
theorem T.use {F : (ι → O) → O} (h : T P F) {K : ι → O} (hK : ∀ i, P i → K i = some true) : F K = some true := by
  obtain ⟨i, hi, e⟩ := h
  rw [e]; exact hK i hi
theorem wr64 (n : Int) : (-9223372036854775808 ≤ n ∧ n ≤ 9223372036854775807 → IntKind.wrap .i64 n = n) := fun h => w64 h.1 h.2
theorem T.eq {F G : (ι → O) → O} (h : T P G) (e : ∀ K, F K = G K) : T P F := by
  obtain ⟨i, p, q⟩ := h
  exact ⟨i, p, fun K => (e K).trans (q K)⟩
attribute [local irreducible] ROUNDS
theorem seqt {a b : ByteArray} (h : a = b) : (a.toList == b.toList) = true := by rw [h]; exact beq_self_eq_true _
theorem seqf {a b : ByteArray} (h : a ≠ b) : (a.toList == b.toList) = false := by
  rw [ByteArray.toList_eq, ByteArray.toList_eq, beq_eq_false_iff_ne]
  intro he
  apply h
  cases a with | mk a =>
  cases b with | mk b =>
  exact congrArg ByteArray.mk (Array.toList_inj.1 he)
theorem bytes_inj : ∀ {a b : List Int}, (∀ x ∈ a, 0 ≤ x ∧ x < 256) → (∀ x ∈ b, 0 ≤ x ∧ x < 256) → a.map (fun n => UInt8.ofNat n.toNat) = b.map (fun n => UInt8.ofNat n.toNat) → a = b
  | [], [], _, _, _ => rfl
  | [], _ :: _, _, _, h => by simp at h
  | _ :: _, [], _, _, h => by simp at h
  | x :: a, y :: b, ha, hb, h => by
    simp only [List.map_cons, List.cons.injEq] at h
    obtain ⟨h1, h2⟩ := h
    have hx := ha x List.mem_cons_self
    have hy := hb y List.mem_cons_self
    have e : x = y := by
      have := congrArg UInt8.toNat h1
      simp only [UInt8.toNat_ofNat'] at this
      omega
    rw [e, bytes_inj (fun z hz => ha z (List.mem_cons_of_mem _ hz)) (fun z hz => hb z (List.mem_cons_of_mem _ hz)) h2]
theorem strOf_inj {a b : List Int} (ha : ∀ x ∈ a, 0 ≤ x ∧ x < 256) (hb : ∀ x ∈ b, 0 ≤ x ∧ x < 256) (h : strOf a = strOf b) : a = b := by
  refine bytes_inj ha hb ?_
  have h := congrArg (fun s : ByteArray => s.data.toList) h
  simpa [strOf] using h
/-! what is reached -/
def okN (g : List (List Int)) (x : Int) : Prop := 0 ≤ x ∧ x < (g.length : Int)
def Rch (g : List (List Int)) (l : List Int) (v : Int) : Prop := ∀ S : Int → Prop, (∀ x ∈ l, okN g x → S x) → (∀ u, S u → ∀ v ∈ g.getD u.toNat [], okN g v → S v) → S v
theorem Rch.base {g : List (List Int)} {l : List Int} {x : Int} (h : x ∈ l) (hx : okN g x) : Rch g l x := fun S h1 _ => h1 x h hx
theorem Rch.step {g : List (List Int)} {l : List Int} {u v : Int} (h : Rch g l u) (hv : v ∈ g.getD u.toNat []) (hx : okN g v) : Rch g l v := fun S h1 h2 => h2 u (h S h1 h2) v hv hx
theorem Rch.mono {g : List (List Int)} {l l' : List Int} (hs : ∀ x ∈ l, x ∈ l') {v : Int} (h : Rch g l v) : Rch g l' v := fun S h1 h2 => h S (fun x hx => h1 x (hs x hx)) h2
theorem Rch.join {g : List (List Int)} {l l' : List Int} {v : Int} : Rch g (l ++ l') v ↔ Rch g l v ∨ Rch g l' v := by
  refine ⟨fun h => h (fun v => Rch g l v ∨ Rch g l' v) (fun x hx hk => ?_) (fun u hu v hv hk => ?_), fun h => h.elim (Rch.mono fun x hx => List.mem_append_left _ hx) (Rch.mono fun x hx => List.mem_append_right _ hx)⟩
  · exact (List.mem_append.1 hx).elim (fun h => .inl (Rch.base h hk)) (fun h => .inr (Rch.base h hk))
  · exact hu.elim (fun h => .inl (h.step hv hk)) (fun h => .inr (h.step hv hk))
structure Inv (g : List (List Int)) (l : List Int) (out : List Bool) (wait : List Int) : Prop where
  len : out.length = g.length
  wt : ∀ x ∈ wait, okN g x ∧ Rch g l x
  snd : ∀ v : Nat, out.getD v false = true → Rch g l (v : Int)
  cls : ∀ u : Nat, out.getD u false = true → ∀ v ∈ g.getD u [], okN g v → out.getD v.toNat false = true ∨ v ∈ wait
  bas : ∀ x ∈ l, okN g x → out.getD x.toNat false = true ∨ x ∈ wait
/-- a row of truths tells of what is reached -/
def Told (g : List (List Int)) (l : List Int) (out : List Bool) : Prop := out.length = g.length ∧ ∀ v : Nat, v < g.length → (out.getD v false = true ↔ Rch g l (v : Int))
theorem Inv.told {g : List (List Int)} {l : List Int} {out : List Bool} (h : Inv g l out []) : Told g l out := by
  refine ⟨h.len, fun v hv => ⟨h.snd v, fun hr => ?_⟩⟩
  have := hr (fun x => okN g x ∧ out.getD x.toNat false = true) (fun x hx hk => ⟨hk, (h.bas x hx hk).elim (fun h => h) (fun h => by cases h)⟩)
    (fun u hu w hw hk => ⟨hk, (h.cls u.toNat hu.2 w hw hk).elim (fun h => h) (fun h => by cases h)⟩)
  rw [Int.toNat_natCast] at this
  exact this.2
theorem Inv.skip {g : List (List Int)} {l : List Int} {out : List Bool} {w : List Int} {a : Int} (h : Inv g l out (w ++ [a])) (ha : out.getD a.toNat false = true) : Inv g l out w := by
  have fix : ∀ {v : Int}, (out.getD v.toNat false = true ∨ v ∈ w ++ [a]) → out.getD v.toNat false = true ∨ v ∈ w := fun hv => hv.elim .inl fun hv => (List.mem_append.1 hv).elim .inr fun hv => by
    rw [List.mem_singleton.1 hv]; exact .inl ha
  exact ⟨h.len, fun x hx => h.wt x (List.mem_append_left _ hx), h.snd, fun u hu v hv hk => fix (h.cls u hu v hv hk), fun x hx hk => fix (h.bas x hx hk)⟩
def vld (n : Int) (row : List Int) : List Int := row.filter fun x => decide (0 ≤ x) && decide (x < n)
theorem mem_vld {n : Int} {row : List Int} {x : Int} : x ∈ vld n row ↔ x ∈ row ∧ 0 ≤ x ∧ x < n := by
  unfold vld
  rw [List.mem_filter, Bool.and_eq_true, decide_eq_true_eq, decide_eq_true_eq]
theorem set_getD {α : Type} {l : List α} {n i : Nat} {x d : α} : (l.set n x).getD i d = if n = i ∧ i < l.length then x else l.getD i d := by
  rw [List.getD_eq_getElem?_getD, List.getD_eq_getElem?_getD, List.getElem?_set]
  by_cases h : n = i
  · subst h
    by_cases h2 : n < l.length
    · simp [h2]
    · simp [h2]
  · simp [h]
theorem Inv.mark {g : List (List Int)} {l : List Int} {out : List Bool} {w : List Int} {a : Int} (h : Inv g l out (w ++ [a])) : Inv g l (out.set a.toNat true) (w ++ vld (g.length : Int) (g.getD a.toNat [])) := by
  obtain ⟨ha, hra⟩ := h.wt a (List.mem_append_right _ (List.mem_singleton.2 rfl))
  have h1 : 0 ≤ a := ha.1
  have h2 : a < (g.length : Int) := ha.2
  have hl := h.len
  have up : ∀ {v : Nat}, out.getD v false = true → (out.set a.toNat true).getD v false = true := fun hv => by
    rw [set_getD]
    split
    · rfl
    · exact hv
  have me : (out.set a.toNat true).getD a.toNat false = true := by rw [set_getD, if_pos ⟨rfl, by omega⟩]
  have fix : ∀ {v : Int}, (out.getD v.toNat false = true ∨ v ∈ w ++ [a]) → (out.set a.toNat true).getD v.toNat false = true ∨ v ∈ w ++ vld (g.length : Int) (g.getD a.toNat []) := fun hv => hv.elim (fun h => .inl (up h)) fun hv => (List.mem_append.1 hv).elim (fun h => .inr (List.mem_append_left _ h)) fun hv => by
    rw [List.mem_singleton.1 hv]; exact .inl me
  refine ⟨by rw [List.length_set]; exact hl, fun x hx => ?_, fun v hv => ?_, fun u hu v hv hk => ?_, fun x hx hk => fix (h.bas x hx hk)⟩
  · rcases List.mem_append.1 hx with hx | hx
    · exact h.wt x (List.mem_append_left _ hx)
    · obtain ⟨q1, q2⟩ := mem_vld.1 hx
      exact ⟨q2, hra.step q1 q2⟩
  · rw [set_getD] at hv
    split at hv
    · rename_i he
      rw [← he.1, Int.toNat_of_nonneg h1]; exact hra
    · exact h.snd v hv
  · rw [set_getD] at hu
    split at hu
    · rename_i he
      rw [← he.1] at hv
      exact .inr (List.mem_append_right _ (mem_vld.2 ⟨hv, hk⟩))
    · exact fix (h.cls u hu v hv hk)
theorem Inv.start {g : List (List Int)} {l : List Int} {out : List Bool} (hl : out.length = g.length) (ho : ∀ v : Nat, out.getD v false = false) : Inv g l out (vld (g.length : Int) l) :=
  ⟨hl, fun x hx => ⟨(mem_vld.1 hx).2, Rch.base (mem_vld.1 hx).1 (mem_vld.1 hx).2⟩, (fun v hv => by rw [ho v] at hv; cases hv), (fun u hu => by rw [ho u] at hu; cases hu), fun x hx hk => .inr (mem_vld.2 ⟨hx, hk⟩)⟩
/-- how many are not yet reached -/
def cf : List Bool → Nat
  | [] => 0
  | b :: r => (if b = true then 0 else 1) + cf r
theorem cf_le : ∀ l : List Bool, cf l ≤ l.length
  | [] => Nat.le_refl _
  | b :: r => by
    have := cf_le r
    rw [cf, List.length_cons]
    split <;> omega
theorem cf_set : ∀ {l : List Bool} {i : Nat}, i < l.length → l.getD i false = false → cf (l.set i true) + 1 = cf l
  | [], i, h, _ => by cases h
  | b :: r, 0, _, hb => by
    have hb : b = false := hb
    rw [List.set_cons_zero, cf, cf, hb]
    simp; omega
  | b :: r, i + 1, h, hb => by
    have ih := cf_set (l := r) (i := i) (by simpa using h) (by simpa using hb)
    rw [List.set_cons_succ, cf, cf]
    omega
theorem last_split {w : List Int} (h : w ≠ []) : w = w.take (w.length - 1) ++ [w.getD (w.length - 1) 0] := by
  have h1 := List.dropLast_concat_getLast h
  rw [List.dropLast_eq_take, List.getLast_eq_getElem] at h1
  rw [List.getD_eq_getElem?_getD, List.getElem?_eq_getElem (show w.length - 1 < w.length by have := List.length_pos_iff.2 h; omega)]
  exact h1.symm
theorem drop_c {α : Type} {l : List α} {i : Int} {d : α} (h0 : 0 ≤ i) (h1 : i < (l.length : Int)) : l.drop i.toNat = l.getD i.toNat d :: l.drop (i.toNat + 1) := by
  have hi : i.toNat < l.length := by omega
  rw [List.drop_eq_getElem_cons hi, List.getD_eq_getElem?_getD, List.getElem?_eq_getElem hi]
  rfl
theorem vld_cons {n x : Int} {r : List Int} : vld n (x :: r) = if 0 ≤ x ∧ x < n then x :: vld n r else vld n r := by
  unfold vld
  rw [List.filter_cons]
  by_cases h : 0 ≤ x ∧ x < n
  · rw [if_pos h, if_pos (by simp [h])]
  · rw [if_neg h, if_neg (by simpa using h)]
theorem vld_len {n : Int} {r : List Int} : (vld n r).length ≤ r.length := List.length_filter_le _ _
theorem wi {i N : Int} (h0 : 0 ≤ i) (h1 : i < N) (h2 : N ≤ 1000000) : IntKind.wrap .i64 (i + 1) = i + 1 ∧ (i + 1).toNat = i.toNat + 1 ∧ ((i.toNat : Nat) : Int) = i := ⟨w64 (by omega) (by omega), by omega, by omega⟩
theorem getD_ge {α : Type} {l : List α} {i : Nat} {d : α} (h : l.length ≤ i) : l.getD i d = d := by
  rw [List.getD_eq_getElem?_getD, List.getElem?_eq_none h]; rfl
theorem getD_all {α : Type} {p : α → Prop} {l : List α} {d : α} (h : ∀ x ∈ l, p x) (hd : p d) (i : Nat) : p (l.getD i d) := by
  rw [List.getD_eq_getElem?_getD]
  cases hi : l[i]? with
  | none => exact hd
  | some x => exact h x (List.mem_of_getElem? hi)
abbrev Ins := Int × Int × Int × Int × Int × Unit
theorem Len_ {n : Int} (h0 : 0 ≤ n) (h1 : n ≤ 255) {H1 : Int → (ι → O) → O} (h : ∀ v, T P (H1 v)) : T P (fun K => math_bits_Len n (fun v => H1 v K)) := by
  unfold math_bits_Len math_bits_Len.body math_bits_Len64 math_bits_Len64.body
  refine tcd (fun h => by omega) (fun _ => tcd (fun h => by omega) (fun _ => tcd (fun h => by omega) (fun _ => ?_)))
  have e := w8 h0 h1
  exact tna (by rw [e]; omega) (by rw [e]; omega) (h _)
theorem less_ {x y : Int} (K : Bool → O) : cmp_Less_int x y K = K (decide (x < y)) := by
  unfold cmp_Less_int cmp_Less_int.body cmp_isNaN_int cmp_isNaN_int.body
  simp
def srt (a b : Int) : List Int := if b < a then [b, a] else [a, b]
theorem wz : IntKind.wrap .i64 (0 : Int) = 0 := w64 (by omega) (by omega)
theorem w1 : IntKind.wrap .i64 (1 : Int) = 1 := w64 (by omega) (by omega)
theorem w2 : IntKind.wrap .i64 (2 : Int) = 2 := w64 (by omega) (by omega)
theorem insL2 {m : Nat} (hm : 2 ≤ m) {a b : Int} (K : Int → Int → Int → List Int → O) : slices_insertionSortOrdered_int_L0_L2 m 0 2 1 1 [a, b] K = K 0 2 1 (srt a b) := by
  obtain ⟨r, rfl⟩ : ∃ r, m = r + 2 := ⟨m - 2, by omega⟩
  rw [slices_insertionSortOrdered_int_L0_L2]
  unfold slices_insertionSortOrdered_int_L0_L2.body
  unfold srt
  by_cases h : b < a
  · rw [slices_insertionSortOrdered_int_L0_L2]
    unfold slices_insertionSortOrdered_int_L0_L2.body
    simp [less_, h, wz]
  · simp [less_, h, wz]
theorem ins2 {a b : Int} (K : List Int → O) : slices_insertionSortOrdered_int 0 2 [a, b] K = K (srt a b) := by
  have hR := rb
  unfold slices_insertionSortOrdered_int slices_insertionSortOrdered_int.body
  obtain ⟨r, hr⟩ : ∃ r, ROUNDS = r + 2 := ⟨ROUNDS - 2, by omega⟩
  rw [show IntKind.wrap .i64 ((0 : Int) + 1) = 1 from w64 (by omega) (by omega), hr, slices_insertionSortOrdered_int_L0]
  unfold slices_insertionSortOrdered_int_L0.body
  rw [insL2 (by omega), slices_insertionSortOrdered_int_L0]
  unfold slices_insertionSortOrdered_int_L0.body
  simp [w2]
theorem ins1 {a : Int} (K : List Int → O) : slices_insertionSortOrdered_int 0 1 [a] K = K [a] := by
  have hR := rb
  unfold slices_insertionSortOrdered_int slices_insertionSortOrdered_int.body
  obtain ⟨r, hr⟩ : ∃ r, ROUNDS = r + 2 := ⟨ROUNDS - 2, by omega⟩
  rw [show IntKind.wrap .i64 ((0 : Int) + 1) = 1 from w64 (by omega) (by omega), hr, slices_insertionSortOrdered_int_L0]
  unfold slices_insertionSortOrdered_int_L0.body
  simp
theorem ins0 (K : O) : slices_insertionSortOrdered_intv1 0 0 K = K := by
  have hR := rb
  unfold slices_insertionSortOrdered_intv1 slices_insertionSortOrdered_intv1.body
  obtain ⟨r, hr⟩ : ∃ r, ROUNDS = r + 2 := ⟨ROUNDS - 2, by omega⟩
  rw [show IntKind.wrap .i64 ((0 : Int) + 1) = 1 from w64 (by omega) (by omega), hr, slices_insertionSortOrdered_intv1_L0]
  unfold slices_insertionSortOrdered_intv1_L0.body
  simp
theorem pdq2 {a b v : Int} (K : List Int → O) : slices_pdqsortOrdered_int 0 2 v [a, b] K = K (srt a b) := by
  have hR := rb
  unfold slices_pdqsortOrdered_int slices_pdqsortOrdered_int.body
  obtain ⟨r, hr⟩ : ∃ r, ROUNDS = r + 1 := ⟨ROUNDS - 1, by omega⟩
  rw [hr, slices_pdqsortOrdered_int_L0]
  unfold slices_pdqsortOrdered_int_L0.body
  simp [w2, ins2]
theorem pdq1 {a v : Int} (K : List Int → O) : slices_pdqsortOrdered_int 0 1 v [a] K = K [a] := by
  have hR := rb
  unfold slices_pdqsortOrdered_int slices_pdqsortOrdered_int.body
  obtain ⟨r, hr⟩ : ∃ r, ROUNDS = r + 1 := ⟨ROUNDS - 1, by omega⟩
  rw [hr, slices_pdqsortOrdered_int_L0]
  unfold slices_pdqsortOrdered_int_L0.body
  simp [w1, ins1]
theorem pdq0 {v : Int} (K : O) : slices_pdqsortOrdered_intv1 0 0 v K = K := by
  have hR := rb
  unfold slices_pdqsortOrdered_intv1 slices_pdqsortOrdered_intv1.body
  obtain ⟨r, hr⟩ : ∃ r, ROUNDS = r + 1 := ⟨ROUNDS - 1, by omega⟩
  rw [hr, slices_pdqsortOrdered_intv1_L0]
  unfold slices_pdqsortOrdered_intv1_L0.body
  simp [wz, ins0]
theorem Sort2 {a b : Int} {H1 : List Int → (ι → O) → O} (h : T P (H1 (srt a b))) : T P (fun K => slices_Sort_int_int [a, b] (fun x => H1 x K)) := by
  unfold slices_Sort_int_int slices_Sort_int_int.body
  refine Len_ (n := IntKind.wrap .u64 (([a, b].length : Nat) : Int)) (by rw [wu64 (by omega) (by show (2 : Int) ≤ _; omega)]; omega) (by rw [wu64 (by omega) (by show (2 : Int) ≤ _; omega)]; show (2 : Int) ≤ _; omega) (fun v => ?_)
  exact h.eq fun K => pdq2 _
theorem Sort1 {a : Int} {H1 : List Int → (ι → O) → O} (h : T P (H1 [a])) : T P (fun K => slices_Sort_int_int [a] (fun x => H1 x K)) := by
  unfold slices_Sort_int_int slices_Sort_int_int.body
  refine Len_ (n := IntKind.wrap .u64 (([a].length : Nat) : Int)) (by rw [wu64 (by omega) (by show (1 : Int) ≤ _; omega)]; omega) (by rw [wu64 (by omega) (by show (1 : Int) ≤ _; omega)]; show (1 : Int) ≤ _; omega) (fun v => ?_)
  exact h.eq fun K => pdq1 _
theorem Sort0 {H1 : (ι → O) → O} (h : T P H1) : T P (fun K => slices_Sort_int_intv1 (H1 K)) := by
  unfold slices_Sort_int_intv1 slices_Sort_int_intv1.body
  exact Len_ (n := 0) (by omega) (by omega) (fun v => h.eq fun K => pdq0 _)
theorem Cmp1 {a : Int} (K1 : List Int → O) (K2 : Nat → List Int → O) : slices_Compact_int_int [a] K1 K2 = K1 [a] := by
  unfold slices_Compact_int_int slices_Compact_int_int.body
  simp
theorem Cmp2 {a b : Int} (K : List Int → O) : slices_Compact_int_int [a, b] (fun x => K x) (fun m x => K (List.take m x)) = K (if a = b then [a] else [a, b]) := by
  have hR := rb
  unfold slices_Compact_int_int slices_Compact_int_int.body
  obtain ⟨r, hr⟩ : ∃ r, ROUNDS = r + 2 := ⟨ROUNDS - 2, by omega⟩
  rw [hr, slices_Compact_int_int_L0]
  unfold slices_Compact_int_int_L0.body
  by_cases h : a = b
  · subst h
    rw [hr, slices_Compact_int_int_L0_L2]
    unfold slices_Compact_int_int_L0_L2.body
    simp [wz, setCells]
  · rw [slices_Compact_int_int_L0]
    unfold slices_Compact_int_int_L0.body
    simp [wz, w1, w2]
    rw [ieqf (fun e : b = a => h e.symm), cond_f, if_neg h]
def nextV (code : List Ins) (i : Int) : List Int := if i < 0 then [] else if i ≥ (code.length : Int) then [] else
  if (code.getD i.toNat ((0 : Int), ((0 : Int), ((0 : Int), ((0 : Int), ((0 : Int), ())))))).1 = 12 then (if (code.getD i.toNat ((0 : Int), ((0 : Int), ((0 : Int), ((0 : Int), ((0 : Int), ())))))).2.2.2.2.1 = i + 1 then [i + 1] else if (code.getD i.toNat ((0 : Int), ((0 : Int), ((0 : Int), ((0 : Int), ((0 : Int), ())))))).2.2.2.2.1 < i + 1 then [(code.getD i.toNat ((0 : Int), ((0 : Int), ((0 : Int), ((0 : Int), ((0 : Int), ())))))).2.2.2.2.1, i + 1] else [i + 1, (code.getD i.toNat ((0 : Int), ((0 : Int), ((0 : Int), ((0 : Int), ((0 : Int), ())))))).2.2.2.2.1])
  else if (code.getD i.toNat ((0 : Int), ((0 : Int), ((0 : Int), ((0 : Int), ((0 : Int), ())))))).1 = 11 then [(code.getD i.toNat ((0 : Int), ((0 : Int), ((0 : Int), ((0 : Int), ((0 : Int), ())))))).2.2.2.2.1] else if (code.getD i.toNat ((0 : Int), ((0 : Int), ((0 : Int), ((0 : Int), ((0 : Int), ())))))).1 = 22 ∨ (code.getD i.toNat ((0 : Int), ((0 : Int), ((0 : Int), ((0 : Int), ((0 : Int), ())))))).1 = 24 then [] else [i + 1]
theorem Next_ {code : List Ins} (hl : code.length ≤ 80) {i : Int} {H1 : List Int → (ι → O) → O} (h : T P (H1 (nextV code i))) : T P (fun K => flow_Next code i (fun x => H1 x K)) := by
  unfold flow_Next flow_Next.body
  unfold nextV at h
  refine tcn (tcd (fun h1 => by rw [if_pos h1] at h; exact h) (fun h1 => tcd (fun h2 => by rw [if_neg h1, if_pos h2] at h; exact h) (fun h2 => ?_)))
  rw [if_neg h1, if_neg h2] at h
  have e1 : IntKind.wrap .i64 (i + 1) = i + 1 := w64 (by omega) (by omega)
  rw [e1]
  refine tna (by omega) (by omega) (tce (fun h3 => ?_) (fun h3 => tce (fun h4 => ?_) (fun h4 => ?_)))
  · rw [if_pos h3] at h
    refine Sort2 ?_
    generalize (code.getD i.toNat ((0 : Int), ((0 : Int), ((0 : Int), ((0 : Int), ((0 : Int), ())))))).2.2.2.2.1 = n at h
    unfold srt
    by_cases h5 : n = i + 1
    · rw [if_pos h5] at h
      subst h5
      rw [if_neg (by omega)]
      exact h.eq fun K => (Cmp2 (fun x => H1 x K)).trans (by rw [if_pos rfl])
    · rw [if_neg h5] at h
      by_cases h6 : n < i + 1
      · rw [if_pos h6] at h ⊢
        exact h.eq fun K => (Cmp2 (fun x => H1 x K)).trans (by rw [if_neg h5])
      · rw [if_neg h6] at h ⊢
        exact h.eq fun K => (Cmp2 (fun x => H1 x K)).trans (by rw [if_neg (fun e => h5 e.symm)])
  · rw [if_neg h3, if_pos h4] at h
    exact Sort1 (h.eq fun K => Cmp1 _ _)
  · rw [if_neg h3, if_neg h4] at h
    unfold op_Ends op_Ends.body
    refine tcn (tce (fun h5 => absurd h5 h4) (fun _ => tcn (tce (fun h5 => ?_) (fun h5 => ?_))))
    · rw [if_pos (.inl h5)] at h
      refine tcn (tct (Sort0 ?_))
      unfold slices_Compact_int_intv1 slices_Compact_int_intv1.body
      exact h
    · by_cases h6 : (code.getD i.toNat ((0 : Int), ((0 : Int), ((0 : Int), ((0 : Int), ((0 : Int), ())))))).1 = 24
      · rw [if_pos (.inr h6)] at h
        rw [h6]
        refine tcn (tct (Sort0 ?_))
        unfold slices_Compact_int_intv1 slices_Compact_int_intv1.body
        exact h
      · rw [if_neg (fun h => h.elim h5 h6)] at h
        rw [show ((code.getD i.toNat ((0 : Int), ((0 : Int), ((0 : Int), ((0 : Int), ((0 : Int), ())))))).1 == 24) = false from ieqf h6]
        exact tcn (tcf (Sort1 (h.eq fun K => Cmp1 _ _)))
theorem nextV_len {code : List Ins} {i : Int} : (nextV code i).length ≤ 2 := by
  unfold nextV
  repeat' split
  all_goals simp
def endsB (n : Int) : Bool := n == 11 || (n == 22 || n == 24)
theorem En_1 (K : Bool → O) : ref07_Ends 1 K = K (endsB 1) := by kernel_rfl
theorem En_2 (K : Bool → O) : ref07_Ends 2 K = K (endsB 2) := by kernel_rfl
theorem En_3 (K : Bool → O) : ref07_Ends 3 K = K (endsB 3) := by kernel_rfl
theorem En_4 (K : Bool → O) : ref07_Ends 4 K = K (endsB 4) := by kernel_rfl
theorem En_5 (K : Bool → O) : ref07_Ends 5 K = K (endsB 5) := by kernel_rfl
theorem En_6 (K : Bool → O) : ref07_Ends 6 K = K (endsB 6) := by kernel_rfl
theorem En_7 (K : Bool → O) : ref07_Ends 7 K = K (endsB 7) := by kernel_rfl
theorem En_8 (K : Bool → O) : ref07_Ends 8 K = K (endsB 8) := by kernel_rfl
theorem En_9 (K : Bool → O) : ref07_Ends 9 K = K (endsB 9) := by kernel_rfl
theorem En_10 (K : Bool → O) : ref07_Ends 10 K = K (endsB 10) := by kernel_rfl
theorem En_11 (K : Bool → O) : ref07_Ends 11 K = K (endsB 11) := by kernel_rfl
theorem En_12 (K : Bool → O) : ref07_Ends 12 K = K (endsB 12) := by kernel_rfl
theorem En_13 (K : Bool → O) : ref07_Ends 13 K = K (endsB 13) := by kernel_rfl
theorem En_14 (K : Bool → O) : ref07_Ends 14 K = K (endsB 14) := by kernel_rfl
theorem En_15 (K : Bool → O) : ref07_Ends 15 K = K (endsB 15) := by kernel_rfl
theorem En_16 (K : Bool → O) : ref07_Ends 16 K = K (endsB 16) := by kernel_rfl
theorem En_17 (K : Bool → O) : ref07_Ends 17 K = K (endsB 17) := by kernel_rfl
theorem En_18 (K : Bool → O) : ref07_Ends 18 K = K (endsB 18) := by kernel_rfl
theorem En_19 (K : Bool → O) : ref07_Ends 19 K = K (endsB 19) := by kernel_rfl
theorem En_20 (K : Bool → O) : ref07_Ends 20 K = K (endsB 20) := by kernel_rfl
theorem En_21 (K : Bool → O) : ref07_Ends 21 K = K (endsB 21) := by kernel_rfl
theorem En_22 (K : Bool → O) : ref07_Ends 22 K = K (endsB 22) := by kernel_rfl
theorem En_23 (K : Bool → O) : ref07_Ends 23 K = K (endsB 23) := by kernel_rfl
theorem En_24 (K : Bool → O) : ref07_Ends 24 K = K (endsB 24) := by kernel_rfl
theorem En_25 (K : Bool → O) : ref07_Ends 25 K = K (endsB 25) := by kernel_rfl
theorem En_26 (K : Bool → O) : ref07_Ends 26 K = K (endsB 26) := by kernel_rfl
theorem En_27 (K : Bool → O) : ref07_Ends 27 K = K (endsB 27) := by kernel_rfl
theorem En_28 (K : Bool → O) : ref07_Ends 28 K = K (endsB 28) := by kernel_rfl
theorem Ends_ {n : Int} (K : Bool → O) : ref07_Ends n K = K (endsB n) := by
  by_cases h1 : n < 1 ∨ n > 28
  · have hn : ∀ K : ByteArray → O, ref07_Name n K = K (⟨#[]⟩ : ByteArray) := fun K => by
      unfold ref07_Name ref07_Name.body ref07_names ref07_names.body
      dsimp only
      by_cases h2 : n < 1
      · rw [cond_neg (by simp [h2])]
      · rw [cond_pos (by simp [h2]), cond_pos (by simp; omega)]
    unfold ref07_Ends ref07_Ends.body
    rw [hn, hn, hn, seqf (by decide), seqf (by decide), seqf (by decide)]
    rw [show endsB n = false from by unfold endsB; rw [ieqf (by omega), ieqf (by omega), ieqf (by omega)]; rfl]
    simp
  · have h3 : n = 1 ∨ n = 2 ∨ n = 3 ∨ n = 4 ∨ n = 5 ∨ n = 6 ∨ n = 7 ∨ n = 8 ∨ n = 9 ∨ n = 10 ∨ n = 11 ∨ n = 12 ∨ n = 13 ∨ n = 14 ∨ n = 15 ∨ n = 16 ∨ n = 17 ∨ n = 18 ∨ n = 19 ∨ n = 20 ∨ n = 21 ∨ n = 22 ∨ n = 23 ∨ n = 24 ∨ n = 25 ∨ n = 26 ∨ n = 27 ∨ n = 28 := by omega
    rcases h3 with rfl | rfl | rfl | rfl | rfl | rfl | rfl | rfl | rfl | rfl | rfl | rfl | rfl | rfl | rfl | rfl | rfl | rfl | rfl | rfl | rfl | rfl | rfl | rfl | rfl | rfl | rfl | rfl
    · exact En_1 K
    · exact En_2 K
    · exact En_3 K
    · exact En_4 K
    · exact En_5 K
    · exact En_6 K
    · exact En_7 K
    · exact En_8 K
    · exact En_9 K
    · exact En_10 K
    · exact En_11 K
    · exact En_12 K
    · exact En_13 K
    · exact En_14 K
    · exact En_15 K
    · exact En_16 K
    · exact En_17 K
    · exact En_18 K
    · exact En_19 K
    · exact En_20 K
    · exact En_21 K
    · exact En_22 K
    · exact En_23 K
    · exact En_24 K
    · exact En_25 K
    · exact En_26 K
    · exact En_27 K
    · exact En_28 K
theorem RNext_ {code : List Ins} (hl : code.length ≤ 80) {i : Int} {H1 : List Int → (ι → O) → O} (h : T P (H1 (nextV code i))) : T P (fun K => ref14_Next code i (fun x => H1 x K)) := by
  unfold ref14_Next ref14_Next.body
  unfold nextV at h
  refine tcn (tcd (fun h1 => by rw [if_pos h1] at h; exact h) (fun h1 => tcd (fun h2 => by rw [if_neg h1, if_pos h2] at h; exact h) (fun h2 => ?_)))
  rw [if_neg h1, if_neg h2] at h
  have e1 : IntKind.wrap .i64 (i + 1) = i + 1 := w64 (by omega) (by omega)
  rw [e1]
  refine tna (by omega) (by omega) (tce (fun h4 => ?_) (fun h4 => ?_))
  · rw [if_neg (by rw [h4]; decide), if_pos h4] at h
    exact h
  · refine T.eq (F := fun K => ref07_Ends _ _) (G := fun K => _) ?_ (fun K => Ends_ _)
    generalize hx : (code.getD i.toNat ((0 : Int), ((0 : Int), ((0 : Int), ((0 : Int), ((0 : Int), ())))))).1 = x at h h4 ⊢
    generalize (code.getD i.toNat ((0 : Int), ((0 : Int), ((0 : Int), ((0 : Int), ((0 : Int), ())))))).2.2.2.2.1 = n at h
    unfold endsB
    rw [ieqf h4, Bool.false_or]
    by_cases h5 : x = 22 ∨ x = 24
    · rw [if_neg (by omega), if_neg h4, if_pos h5] at h
      rw [show (x == 22 || x == 24) = true from by rcases h5 with h5 | h5 <;> subst h5 <;> rfl]
      exact tct h
    · have h6 : x ≠ 22 := fun e => h5 (.inl e)
      have h7 : x ≠ 24 := fun e => h5 (.inr e)
      rw [ieqf h6, ieqf h7, Bool.false_or]
      refine tcf (tcn (tcne (fun h8 => ?_) (fun h8 => ?_)))
      · rw [if_neg h8, if_neg h4, if_neg h5] at h
        exact h
      · rw [if_pos h8] at h
        refine tce (fun h9 => ?_) (fun h9 => tcd (fun h10 => ?_) (fun h10 => ?_))
        · rw [if_pos h9] at h; exact h
        · rw [if_neg h9, if_pos h10] at h; exact h
        · rw [if_neg h9, if_neg h10] at h; exact h
def graphV (code : List Ins) : List (List Int) := (List.range code.length).map fun (k : Nat) => nextV code (k : Int)
theorem graphV_len {code : List Ins} : (graphV code).length = code.length := by unfold graphV; rw [List.length_map, List.length_range]
theorem graphV_get {code : List Ins} {u : Nat} (h : u < code.length) : (graphV code).getD u [] = nextV code (u : Int) := by
  unfold graphV
  rw [List.getD_eq_getElem?_getD, List.getElem?_map, List.getElem?_range h]
  rfl
theorem graphV_row {code : List Ins} : ∀ row ∈ graphV code, row.length ≤ 30 := fun row hr => by
  unfold graphV at hr
  obtain ⟨k, _, rfl⟩ := List.mem_map.1 hr
  exact Nat.le_trans nextV_len (by decide)
theorem graphL_ {code : List Ins} (hl : code.length ≤ 80) {H1 : List (List Int) → (ι → O) → O} (h : T P (H1 (graphV code))) : ∀ {m : Nat} {i : Int} {ls : List (List Int)}, 0 ≤ i → i ≤ (code.length : Int) → (code.length : Int) < i + m → ls = (graphV code).take i.toNat → T P (fun K => flow_graph_L0 m code (code.length : Int) i ls (fun x => H1 x K)) := by
  intro m
  induction m with
  | zero => intros; omega
  | succ m ih =>
    intro i ls g0 g1 g2 g3
    have hgl := graphV_len (code := code)
    rw [flow_graph_L0]
    unfold flow_graph_L0.body
    refine tcd (fun h1 => Next_ hl ?_) (fun h1 => ?_)
    · obtain ⟨e1, e2, e3⟩ := wi g0 h1 (by omega)
      have hls : ls.length ≤ 80 := by rw [g3, List.length_take]; omega
      refine tnb (by simp only [List.length_cons, List.length_nil]; omega) ?_
      rw [e1]
      refine ih (by omega) (by omega) (by omega) ?_
      rw [e2, List.take_add_one, ← g3]
      congr 1
      have : (graphV code)[i.toNat]? = some (nextV code i) := by
        have hg := graphV_get (code := code) (u := i.toNat) (by omega)
        rw [List.getD_eq_getElem?_getD, e3] at hg
        rw [List.getElem?_eq_getElem (by omega)] at hg ⊢
        exact congrArg some hg
      rw [this]
      rfl
    · rw [List.take_of_length_le (by omega)] at g3
      rw [g3]; exact h
theorem graph_ {code : List Ins} (hl : code.length ≤ 80) {H1 : List (List Int) → (ι → O) → O} (h : T P (H1 (graphV code))) : T P (fun K => flow_graph code (fun x => H1 x K)) := by
  have := rb
  unfold flow_graph flow_graph.body
  exact graphL_ hl h (Int.le_refl _) (by omega) (by omega) rfl
def aftV (code : List Ins) (l : List Int) : List Int := l.flatMap (nextV code)
theorem aftV_len {code : List Ins} : ∀ {l : List Int}, (aftV code l).length ≤ 2 * l.length
  | [] => Nat.le_refl _
  | x :: r => by
    have h1 := aftV_len (code := code) (l := r)
    have h2 := nextV_len (code := code) (i := x)
    unfold aftV at h1 ⊢
    rw [List.flatMap_cons, List.length_append, List.length_cons]
    omega
/-! places outside -/
def badB (n : Int) (v : Int) : Bool := decide (v < 0) || decide (v ≥ n)
def rowB (n : Int) (row : List Int) : Bool := row.any (badB n)
theorem drop_any {α : Type} {f : α → Bool} {l : List α} {i : Int} {d : α} (h0 : 0 ≤ i) (h1 : i < (l.length : Int)) : (l.drop i.toNat).any f = (f (l.getD i.toNat d) || (l.drop (i.toNat + 1)).any f) := by
  rw [drop_c (d := d) h0 h1, List.any_cons]
theorem IX_ {code : List Ins} {row : List Int} (hl : row.length ≤ 1000) {H1 : Int → List Ins → (ι → O) → O} {H2 : List Ins → (ι → O) → O} (h1 : rowB (code.length : Int) row = true → ∀ j, 0 ≤ j → T P (H1 j code)) (h2 : rowB (code.length : Int) row = false → T P (H2 code)) : ∀ {m : Nat} {i : Int}, 0 ≤ i → i ≤ (row.length : Int) → (row.length : Int) < i + m → rowB (code.length : Int) (row.drop i.toNat) = rowB (code.length : Int) row → T P (fun K => slices_IndexFunc_int_int_L0 m row (row.length : Int) i code (fun a b => H1 a b K) (fun a => H2 a K)) := by
  intro m
  induction m with
  | zero => intros; omega
  | succ m ih =>
    intro i g0 g1 g2 g3
    rw [slices_IndexFunc_int_int_L0]
    unfold slices_IndexFunc_int_int_L0.body
    refine tcd (fun q => tna g0 q ?_) (fun q => ?_)
    · obtain ⟨e1, e2, e3⟩ := wi g0 q (by omega)
      unfold rowB at g3
      rw [drop_any (d := 0) g0 q] at g3
      have hit : badB (code.length : Int) (row.getD i.toNat 0) = true → T P (H1 i code) := fun hb => by
        rw [hb, Bool.true_or] at g3
        exact h1 g3.symm i g0
      have miss : badB (code.length : Int) (row.getD i.toNat 0) = false → T P (fun K => slices_IndexFunc_int_int_L0 m row (row.length : Int) (IntKind.wrap .i64 (i + 1)) code (fun a b => H1 a b K) (fun a => H2 a K)) := fun hb => by
        rw [hb, Bool.false_or] at g3
        rw [e1]
        exact ih (by omega) (by omega) (by omega) (by rw [e2]; exact g3)
      generalize row.getD i.toNat 0 = v at hit miss ⊢
      unfold flow_Checkfn1 flow_Checkfn1.body
      unfold badB at hit miss
      refine tcn (tcd (fun h => tct (hit (by rw [dt h]; rfl))) (fun h => tcd (fun h9 => hit (by rw [dt h9, Bool.or_true])) (fun h9 => miss (by rw [df h, df h9]; rfl))))
    · rw [List.drop_eq_nil_of_le (by omega)] at g3
      exact h2 g3.symm
theorem Cont_ {code : List Ins} {row : List Int} (hl : row.length ≤ 1000) {H1 : Bool → List Ins → (ι → O) → O} (h : T P (H1 (rowB (code.length : Int) row) code)) : T P (fun K => slices_ContainsFunc_int_int row code (fun a b => H1 a b K)) := by
  have hR := rb
  unfold slices_ContainsFunc_int_int slices_ContainsFunc_int_int.body slices_IndexFunc_int_int slices_IndexFunc_int_int.body
  refine IX_ (H1 := fun a b K => H1 (decide (a ≥ 0)) b K) (H2 := fun b K => H1 (decide ((-1 : Int) ≥ 0)) b K) hl (fun hb j hj => ?_) (fun hb => ?_) (Int.le_refl _) (by omega) (by omega) rfl
  · rw [hb] at h
    rw [dt hj]; exact h
  · rw [hb] at h
    exact h
def chkV (code : List Ins) : Int := if (code.length : Int) = 0 then 3 else if (code.length : Int) > 64 then 6 else if (graphV code).any (rowB (code.length : Int)) = true then 10 else 0
theorem CL1_ {code : List Ins} {ls : List (List Int)} (hl : ls.length ≤ 1000) (hr : ∀ row ∈ ls, row.length ≤ 30) {H1 : Int → (ι → O) → O} {H2 : (ι → O) → O} (h1 : ls.any (rowB (code.length : Int)) = true → T P (H1 10)) (h2 : ls.any (rowB (code.length : Int)) = false → T P H2) : ∀ {m : Nat} {i : Int}, 0 ≤ i → i ≤ (ls.length : Int) → (ls.length : Int) < i + m → (ls.drop i.toNat).any (rowB (code.length : Int)) = ls.any (rowB (code.length : Int)) → T P (fun K => flow_Check_L1 m (ls.length : Int) i code ls (fun a => H1 a K) (H2 K)) := by
  intro m
  induction m with
  | zero => intros; omega
  | succ m ih =>
    intro i g0 g1 g2 g3
    rw [flow_Check_L1]
    unfold flow_Check_L1.body
    refine tcd (fun q => tna g0 q (Cont_ ?_ ?_)) (fun q => ?_)
    · exact Nat.le_trans (getD_all (p := fun r : List Int => r.length ≤ 30) hr (by decide) _) (by decide)
    · obtain ⟨e1, e2, e3⟩ := wi g0 q (by omega)
      rw [drop_any (d := []) g0 q] at g3
      refine tc (fun hb => ?_) (fun hb => ?_)
      · rw [hb, Bool.true_or] at g3
        exact h1 g3.symm
      · rw [hb, Bool.false_or] at g3
        rw [e1]
        exact ih (by omega) (by omega) (by omega) (by rw [e2]; exact g3)
    · rw [List.drop_eq_nil_of_le (by omega)] at g3
      exact h2 g3.symm
theorem Check_ {code : List Ins} (hc : code.length ≤ 80) {H1 : Int → (ι → O) → O} (h : T P (H1 (chkV code))) : T P (fun K => flow_Check code (fun a => H1 a K)) := by
  have hR := rb
  have hg := graphV_len (code := code)
  unfold flow_Check flow_Check.body
  unfold chkV at h
  refine tce (fun q => by rw [if_pos q] at h; exact h) (fun q => tcd (fun q2 => by rw [if_neg q, if_pos q2] at h; exact h) (fun q2 => ?_))
  rw [if_neg q, if_neg q2] at h
  refine graph_ hc (H1 := fun ls K => flow_Check_L1 ROUNDS (ls.length : Int) 0 code ls (fun a => H1 a K) (H1 0 K)) ?_
  exact CL1_ (H1 := H1) (H2 := H1 0) (by omega) graphV_row (fun hb => by rw [if_pos hb] at h; exact h) (fun hb => by rw [if_neg (by rw [hb]; decide)] at h; exact h) (Int.le_refl _) (by omega) (by omega) rfl
theorem RL2_ {code : List Ins} {i : Int} {row : List Int} (hl : row.length ≤ 1000) {H1 : Int → (ι → O) → O} {H2 : List Ins → Int → (ι → O) → O} (h1 : rowB (code.length : Int) row = true → T P (H1 10)) (h2 : rowB (code.length : Int) row = false → T P (H2 code i)) : ∀ {m : Nat} {k : Int}, 0 ≤ k → k ≤ (row.length : Int) → (row.length : Int) < k + m → rowB (code.length : Int) (row.drop k.toNat) = rowB (code.length : Int) row → T P (fun K => ref14_Check_L0_L2 m code i k row (fun a => H1 a K) (fun a b => H2 a b K)) := by
  intro m
  induction m with
  | zero => intros; omega
  | succ m ih =>
    intro k g0 g1 g2 g3
    rw [ref14_Check_L0_L2]
    unfold ref14_Check_L0_L2.body
    refine tcd (fun q => tna g0 q ?_) (fun q => ?_)
    · obtain ⟨e1, e2, e3⟩ := wi g0 q (by omega)
      unfold rowB at g3
      rw [drop_any (d := 0) g0 q] at g3
      have hit : badB (code.length : Int) (row.getD k.toNat 0) = true → T P (H1 10) := fun hb => by
        rw [hb, Bool.true_or] at g3
        exact h1 g3.symm
      have miss : badB (code.length : Int) (row.getD k.toNat 0) = false → T P (fun K => ref14_Check_L0_L2 m code i (IntKind.wrap .i64 (k + 1)) row (fun a => H1 a K) (fun a b => H2 a b K)) := fun hb => by
        rw [hb, Bool.false_or] at g3
        rw [e1]
        exact ih (by omega) (by omega) (by omega) (by rw [e2]; exact g3)
      generalize row.getD k.toNat 0 = v at hit miss ⊢
      unfold badB at hit miss
      refine tcn (tcd (fun h => hit (by rw [dt h]; rfl)) (fun h => tna g0 q (tcd (fun h9 => hit (by rw [dt h9, Bool.or_true])) (fun h9 => miss (by rw [df h, df h9]; rfl)))))
    · rw [List.drop_eq_nil_of_le (by omega)] at g3
      exact h2 g3.symm
theorem RL0_ {code : List Ins} (hc : code.length ≤ 80) {H1 : Int → (ι → O) → O} {H2 : (ι → O) → O} (h1 : (graphV code).any (rowB (code.length : Int)) = true → T P (H1 10)) (h2 : (graphV code).any (rowB (code.length : Int)) = false → T P H2) : ∀ {m : Nat} {i : Int}, 0 ≤ i → i ≤ (code.length : Int) → (code.length : Int) < i + m → ((graphV code).drop i.toNat).any (rowB (code.length : Int)) = (graphV code).any (rowB (code.length : Int)) → T P (fun K => ref14_Check_L0 m code i (fun a => H1 a K) (H2 K)) := by
  intro m
  induction m with
  | zero => intros; omega
  | succ m ih =>
    intro i g0 g1 g2 g3
    have hR := rb
    have hg := graphV_len (code := code)
    have hn := nextV_len (code := code) (i := i)
    rw [ref14_Check_L0]
    unfold ref14_Check_L0.body
    refine tcd (fun q => RNext_ hc ?_) (fun q => ?_)
    · obtain ⟨e1, e2, e3⟩ := wi g0 q (by omega)
      rw [drop_any (d := []) g0 (by omega), graphV_get (by omega), e3] at g3
      refine RL2_ (H1 := H1) (H2 := fun a b K => ref14_Check_L0 m a (IntKind.wrap .i64 (b + 1)) (fun a => H1 a K) (H2 K)) (by omega) (fun hb => ?_) (fun hb => ?_) (Int.le_refl _) (by omega) (by omega) rfl
      · rw [hb, Bool.true_or] at g3
        exact h1 g3.symm
      · rw [hb, Bool.false_or] at g3
        rw [e1]
        exact ih (by omega) (by omega) (by omega) (by rw [e2]; exact g3)
    · rw [List.drop_eq_nil_of_le (by omega)] at g3
      exact h2 g3.symm
theorem RCheck_ {code : List Ins} (hc : code.length ≤ 80) {H1 : Int → (ι → O) → O} (h : T P (H1 (chkV code))) : T P (fun K => ref14_Check code (fun a => H1 a K)) := by
  have hR := rb
  unfold ref14_Check ref14_Check.body
  unfold chkV at h
  refine tce (fun q => by rw [if_pos q] at h; exact h) (fun q => tcd (fun q2 => by rw [if_neg q, if_pos q2] at h; exact h) (fun q2 => ?_))
  rw [if_neg q, if_neg q2] at h
  exact RL0_ (H1 := H1) (H2 := H1 0) hc (fun hb => by rw [if_pos hb] at h; exact h) (fun hb => by rw [if_neg (by rw [hb]; decide)] at h; exact h) (Int.le_refl _) (by omega) (by omega) rfl
def names : List ByteArray := [(⟨#[110, 111, 112]⟩ : ByteArray), (⟨#[115, 101, 116]⟩ : ByteArray), (⟨#[109, 111, 118, 101]⟩ : ByteArray), (⟨#[97, 100, 100]⟩ : ByteArray), (⟨#[115, 117, 98]⟩ : ByteArray), (⟨#[109, 117, 108]⟩ : ByteArray), (⟨#[100, 105, 118]⟩ : ByteArray), (⟨#[109, 111, 100]⟩ : ByteArray), (⟨#[108, 101, 115, 115]⟩ : ByteArray), (⟨#[115, 97, 109, 101]⟩ : ByteArray), (⟨#[106, 117, 109, 112]⟩ : ByteArray), (⟨#[122, 101, 114, 111]⟩ : ByteArray), (⟨#[105, 110]⟩ : ByteArray), (⟨#[111, 117, 116]⟩ : ByteArray), (⟨#[108, 111, 97, 100]⟩ : ByteArray), (⟨#[115, 116, 111, 114, 101]⟩ : ByteArray), (⟨#[102, 117, 110, 99]⟩ : ByteArray), (⟨#[112, 105, 99, 107]⟩ : ByteArray), (⟨#[99, 97, 108, 108]⟩ : ByteArray), (⟨#[118, 105, 97]⟩ : ByteArray), (⟨#[100, 101, 102, 101, 114]⟩ : ByteArray), (⟨#[112, 97, 110, 105, 99]⟩ : ByteArray), (⟨#[114, 101, 99, 111, 118, 101, 114]⟩ : ByteArray), (⟨#[114, 101, 116, 117, 114, 110]⟩ : ByteArray), (⟨#[99, 104, 101, 99, 107]⟩ : ByteArray), (⟨#[101, 110, 116, 101, 114]⟩ : ByteArray), (⟨#[98, 111, 116, 116, 111, 109]⟩ : ByteArray), (⟨#[100, 114, 105, 118, 101, 114]⟩ : ByteArray)]
def shapes : List ByteArray := [(⟨#[45, 45, 45, 45]⟩ : ByteArray), (⟨#[119, 45, 45, 110]⟩ : ByteArray), (⟨#[119, 114, 45, 45]⟩ : ByteArray), (⟨#[119, 114, 114, 45]⟩ : ByteArray), (⟨#[119, 114, 114, 45]⟩ : ByteArray), (⟨#[119, 114, 114, 45]⟩ : ByteArray), (⟨#[119, 114, 114, 45]⟩ : ByteArray), (⟨#[119, 114, 114, 45]⟩ : ByteArray), (⟨#[119, 114, 114, 45]⟩ : ByteArray), (⟨#[119, 114, 114, 45]⟩ : ByteArray), (⟨#[45, 45, 45, 116]⟩ : ByteArray), (⟨#[114, 45, 45, 116]⟩ : ByteArray), (⟨#[119, 45, 45, 45]⟩ : ByteArray), (⟨#[114, 45, 45, 45]⟩ : ByteArray), (⟨#[119, 114, 45, 45]⟩ : ByteArray), (⟨#[114, 114, 45, 45]⟩ : ByteArray), (⟨#[103, 45, 45, 45]⟩ : ByteArray), (⟨#[103, 114, 45, 45]⟩ : ByteArray), (⟨#[99, 45, 45, 45]⟩ : ByteArray), (⟨#[99, 102, 107, 45]⟩ : ByteArray), (⟨#[100, 45, 45, 45]⟩ : ByteArray), (⟨#[114, 45, 45, 45]⟩ : ByteArray), (⟨#[119, 119, 45, 45]⟩ : ByteArray), (⟨#[118, 45, 45, 45]⟩ : ByteArray)]
abbrev eB : ByteArray := ⟨#[]⟩
def nameS (n : Int) : ByteArray := if 1 ≤ n ∧ n ≤ 28 then names.getD (n - 1).toNat ⟨#[]⟩ else ⟨#[]⟩
def shapeS (n : Int) : ByteArray := if 1 ≤ n ∧ n ≤ 24 then shapes.getD (n - 1).toNat ⟨#[]⟩ else ⟨#[]⟩
theorem name_ (n : Int) (k : ByteArray → Option Bool) : op_Name n k = k (nameS n) := by
  unfold op_Name op_Name.body op_names op_names.body nameS
  dsimp only
  by_cases h1 : n < 1
  · rw [if_neg (by omega)]
    simp (disch := first | omega | (simp only [List.length_append, List.length_cons, List.length_nil, List.length_set, List.length_take, List.length_drop, List.length_replicate]; omega) | fail) only [cond_t, cond_f, dt, df, w64, wu64, w8, ble_t, ble_f, ieqt, ieqf, inet, inef, Bool.not_true, Bool.not_false, Bool.true_and, Bool.and_true, Bool.false_and, Bool.and_false, Bool.not_not, dTrue, dFalse, Int.toNat_natCast, List.length_append, List.length_cons, List.length_nil, meet_self]
  · by_cases h2 : n > 28
    · rw [if_neg (by omega)]
      simp (disch := first | omega | (simp only [List.length_append, List.length_cons, List.length_nil, List.length_set, List.length_take, List.length_drop, List.length_replicate]; omega) | fail) only [cond_t, cond_f, dt, df, w64, wu64, w8, ble_t, ble_f, ieqt, ieqf, inet, inef, Bool.not_true, Bool.not_false, Bool.true_and, Bool.and_true, Bool.false_and, Bool.and_false, Bool.not_not, dTrue, dFalse, Int.toNat_natCast, List.length_append, List.length_cons, List.length_nil, meet_self]
    · rw [if_pos (by omega)]
      simp (disch := first | omega | (simp only [List.length_append, List.length_cons, List.length_nil, List.length_set, List.length_take, List.length_drop, List.length_replicate]; omega) | fail) only [cond_t, cond_f, dt, df, w64, wu64, w8, ble_t, ble_f, ieqt, ieqf, inet, inef, Bool.not_true, Bool.not_false, Bool.true_and, Bool.and_true, Bool.false_and, Bool.and_false, Bool.not_not, dTrue, dFalse, Int.toNat_natCast, List.length_append, List.length_cons, List.length_nil, meet_self]
      rfl
theorem rname_ (n : Int) (k : ByteArray → Option Bool) : ref07_Name n k = k (nameS n) := by
  have hl : names.length = 28 := rfl
  unfold ref07_Name ref07_Name.body ref07_names ref07_names.body nameS
  show cond_ (!decide (n < 1)) (cond_ (decide (n > (names.length : Int))) (k ⟨#[]⟩) (cond_ (decide (0 ≤ IntKind.wrap .i64 (n - 1)) && decide (IntKind.wrap .i64 (n - 1) < (names.length : Int))) (k (names.getD (IntKind.wrap .i64 (n - 1)).toNat ⟨#[]⟩)) none)) (k ⟨#[]⟩) = _
  by_cases h1 : n < 1
  · rw [if_neg (by omega)]
    simp (disch := first | omega | (simp only [List.length_append, List.length_cons, List.length_nil, List.length_set, List.length_take, List.length_drop, List.length_replicate]; omega) | fail) only [cond_t, cond_f, dt, df, w64, wu64, w8, ble_t, ble_f, ieqt, ieqf, inet, inef, Bool.not_true, Bool.not_false, Bool.true_and, Bool.and_true, Bool.false_and, Bool.and_false, Bool.not_not, dTrue, dFalse, Int.toNat_natCast, List.length_append, List.length_cons, List.length_nil, meet_self]
  · by_cases h2 : n > 28
    · rw [if_neg (by omega)]
      simp (disch := first | omega | (simp only [List.length_append, List.length_cons, List.length_nil, List.length_set, List.length_take, List.length_drop, List.length_replicate]; omega) | fail) only [cond_t, cond_f, dt, df, w64, wu64, w8, ble_t, ble_f, ieqt, ieqf, inet, inef, Bool.not_true, Bool.not_false, Bool.true_and, Bool.and_true, Bool.false_and, Bool.and_false, Bool.not_not, dTrue, dFalse, Int.toNat_natCast, List.length_append, List.length_cons, List.length_nil, meet_self]
    · rw [if_pos (by omega)]
      simp (disch := first | omega | (simp only [List.length_append, List.length_cons, List.length_nil, List.length_set, List.length_take, List.length_drop, List.length_replicate]; omega) | fail) only [cond_t, cond_f, dt, df, w64, wu64, w8, ble_t, ble_f, ieqt, ieqf, inet, inef, Bool.not_true, Bool.not_false, Bool.true_and, Bool.and_true, Bool.false_and, Bool.and_false, Bool.not_not, dTrue, dFalse, Int.toNat_natCast, List.length_append, List.length_cons, List.length_nil, meet_self]
theorem shape_ (n : Int) (k : ByteArray → Option Bool) : op_Shape n k = k (shapeS n) := by
  unfold op_Shape op_Shape.body op_Own op_Own.body op_shapes op_shapes.body shapeS
  dsimp only
  by_cases h1 : n < 1
  · rw [if_neg (by omega)]
    simp (disch := first | omega | (simp only [List.length_append, List.length_cons, List.length_nil, List.length_set, List.length_take, List.length_drop, List.length_replicate]; omega) | fail) only [cond_t, cond_f, dt, df, w64, wu64, w8, ble_t, ble_f, ieqt, ieqf, inet, inef, Bool.not_true, Bool.not_false, Bool.true_and, Bool.and_true, Bool.false_and, Bool.and_false, Bool.not_not, dTrue, dFalse, Int.toNat_natCast, List.length_append, List.length_cons, List.length_nil, meet_self]
  · by_cases h2 : n > 24
    · rw [if_neg (by omega)]
      simp (disch := first | omega | (simp only [List.length_append, List.length_cons, List.length_nil, List.length_set, List.length_take, List.length_drop, List.length_replicate]; omega) | fail) only [cond_t, cond_f, dt, df, w64, wu64, w8, ble_t, ble_f, ieqt, ieqf, inet, inef, Bool.not_true, Bool.not_false, Bool.true_and, Bool.and_true, Bool.false_and, Bool.and_false, Bool.not_not, dTrue, dFalse, Int.toNat_natCast, List.length_append, List.length_cons, List.length_nil, meet_self]
    · rw [if_pos (by omega)]
      simp (disch := first | omega | (simp only [List.length_append, List.length_cons, List.length_nil, List.length_set, List.length_take, List.length_drop, List.length_replicate]; omega) | fail) only [cond_t, cond_f, dt, df, w64, wu64, w8, ble_t, ble_f, ieqt, ieqf, inet, inef, Bool.not_true, Bool.not_false, Bool.true_and, Bool.and_true, Bool.false_and, Bool.and_false, Bool.not_not, dTrue, dFalse, Int.toNat_natCast, List.length_append, List.length_cons, List.length_nil, meet_self]
      rfl
theorem rshape_ (n : Int) (k : ByteArray → Option Bool) : ref07_Shape n k = k (shapeS n) := by
  by_cases h1 : 1 ≤ n ∧ n ≤ 28
  · have : n = 1 ∨ n = 2 ∨ n = 3 ∨ n = 4 ∨ n = 5 ∨ n = 6 ∨ n = 7 ∨ n = 8 ∨ n = 9 ∨ n = 10 ∨ n = 11 ∨ n = 12 ∨ n = 13 ∨ n = 14 ∨ n = 15 ∨ n = 16 ∨ n = 17 ∨ n = 18 ∨ n = 19 ∨ n = 20 ∨ n = 21 ∨ n = 22 ∨ n = 23 ∨ n = 24 ∨ n = 25 ∨ n = 26 ∨ n = 27 ∨ n = 28 := by omega
    rcases this with rfl | rfl | rfl | rfl | rfl | rfl | rfl | rfl | rfl | rfl | rfl | rfl | rfl | rfl | rfl | rfl | rfl | rfl | rfl | rfl | rfl | rfl | rfl | rfl | rfl | rfl | rfl | rfl <;> (show _ = _ ; kernel_rfl)
  · have e : nameS n = ⟨#[]⟩ := by unfold nameS; rw [if_neg h1]
    have e2 : shapeS n = ⟨#[]⟩ := by unfold shapeS; rw [if_neg (by omega)]
    unfold ref07_Shape ref07_Shape.body
    rw [e2]
    by_cases h2 : n < 1
    · simp (disch := first | omega | (simp only [List.length_append, List.length_cons, List.length_nil, List.length_set, List.length_take, List.length_drop, List.length_replicate]; omega) | fail) only [cond_t, cond_f, dt, df, w64, wu64, w8, ble_t, ble_f, ieqt, ieqf, inet, inef, Bool.not_true, Bool.not_false, Bool.true_and, Bool.and_true, Bool.false_and, Bool.and_false, Bool.not_not, dTrue, dFalse, Int.toNat_natCast, List.length_append, List.length_cons, List.length_nil, meet_self, rname_, e]
      show _ = _
      kernel_rfl
    · simp (disch := first | omega | (simp only [List.length_append, List.length_cons, List.length_nil, List.length_set, List.length_take, List.length_drop, List.length_replicate]; omega) | fail) only [cond_t, cond_f, dt, df, w64, wu64, w8, ble_t, ble_f, ieqt, ieqf, inet, inef, Bool.not_true, Bool.not_false, Bool.true_and, Bool.and_true, Bool.false_and, Bool.and_false, Bool.not_not, dTrue, dFalse, Int.toNat_natCast, List.length_append, List.length_cons, List.length_nil, meet_self, rname_, e]
      show _ = _
      kernel_rfl
theorem shapeS_size (n : Int) : (shapeS n).size ≤ 4 := by
  unfold shapeS
  split
  · have : ∀ i, (shapes.getD i ⟨#[]⟩).size ≤ 4 := by
      intro i
      rcases Nat.lt_or_ge i 24 with h | h
      · have : i = 0 ∨ i = 1 ∨ i = 2 ∨ i = 3 ∨ i = 4 ∨ i = 5 ∨ i = 6 ∨ i = 7 ∨ i = 8 ∨ i = 9 ∨ i = 10 ∨ i = 11 ∨ i = 12 ∨ i = 13 ∨ i = 14 ∨ i = 15 ∨ i = 16 ∨ i = 17 ∨ i = 18 ∨ i = 19 ∨ i = 20 ∨ i = 21 ∨ i = 22 ∨ i = 23 := by omega
        rcases this with rfl | rfl | rfl | rfl | rfl | rfl | rfl | rfl | rfl | rfl | rfl | rfl | rfl | rfl | rfl | rfl | rfl | rfl | rfl | rfl | rfl | rfl | rfl | rfl <;> decide
      · rw [List.getD_eq_getElem?_getD, List.getElem?_eq_none (by exact h)]
        decide
    exact this _
  · decide
abbrev In := Int × Int × Int × Int × Int × Unit
def fields (x : In) : List Int := [x.2.1, x.2.2.1, x.2.2.2.1, x.2.2.2.2.1]
def operS (x : In) (i : Int) : Int := if i = 0 then x.2.1 else if i = 1 then x.2.2.1 else if i = 2 then x.2.2.2.1 else if i = 3 then x.2.2.2.2.1 else 0
theorem roperand_ (x : In) (i : Int) (k : Int → Option Bool) : ref08_Operand x i k = k (operS x i) := by
  unfold ref08_Operand ref08_Operand.body operS
  by_cases h0 : i = 0
  · subst h0; rfl
  · rw [if_neg h0, cond_neg (ieqf h0)]
    by_cases h1 : i = 1
    · subst h1; rfl
    · rw [if_neg h1, cond_neg (ieqf h1)]
      by_cases h2 : i = 2
      · subst h2; rfl
      · rw [if_neg h2, cond_neg (ieqf h2)]
        by_cases h3 : i = 3
        · subst h3; rfl
        · rw [if_neg h3, cond_neg (ieqf h3)]
theorem fields_oper (x : In) (i : Nat) (h : i < 4) : (fields x).getD i 0 = operS x (i : Int) := by
  have : i = 0 ∨ i = 1 ∨ i = 2 ∨ i = 3 := by omega
  rcases this with rfl | rfl | rfl | rfl <;> rfl
theorem ex_step {P : Nat → Prop} {i m : Nat} (h : i < m) : (∃ j, i ≤ j ∧ j < m ∧ P j) ↔ P i ∨ ∃ j, i + 1 ≤ j ∧ j < m ∧ P j := by
  constructor
  · rintro ⟨j, h1, h2, h3⟩
    by_cases e : i = j
    · subst e; exact .inl h3
    · exact .inr ⟨j, by omega, h2, h3⟩
  · rintro (h1 | ⟨j, h1, h2, h3⟩)
    · exact ⟨i, Nat.le_refl _, h, h1⟩
    · exact ⟨j, by omega, h2, h3⟩
theorem ex_none {P : Nat → Prop} {i m : Nat} (h : ¬ i < m) : ¬ ∃ j, i ≤ j ∧ j < m ∧ P j := by
  rintro ⟨j, h1, h2, _⟩
  omega
def outAt (x : In) (i : Nat) : Prop := operS x (i : Int) < 0 ∨ operS x (i : Int) > 255
def dashAt (s : ByteArray) (i : Nat) : Prop := ((UInt8.toNat (List.getD s.data.toList i 0) : Nat) : Int) = 45
open Classical in
noncomputable def checkI (x : In) : Int := if (nameS x.1).toList = [] then 8 else if ∃ j, 0 ≤ j ∧ j < 3 ∧ outAt x j then 9 else if x.2.2.2.2.1 < -2147483648 ∨ x.2.2.2.2.1 > 2147483647 then 9 else if ∃ j, 0 ≤ j ∧ j < (shapeS x.1).size ∧ (dashAt (shapeS x.1) j ∧ operS x (j : Int) ≠ 0) then 2 else 0
open Classical in
theorem rchkL (x : In) (k1 : Int → Option Bool) (k2 : In → Option Bool) : ∀ (n i : Nat), i ≤ 3 → 3 - i < n → ref08_Check_L0 n (i : Int) x k1 k2 = if ∃ j, i ≤ j ∧ j < 3 ∧ outAt x j then k1 9 else k2 x
  | 0, i, _, h => by omega
  | n + 1, i, h0, h1 => by
    rw [ref08_Check_L0]
    unfold ref08_Check_L0.body
    by_cases h : i < 3
    · rw [if_iff (ex_step h)]
      have ih := rchkL x k1 k2 n (i + 1) (by omega) (by omega)
      rw [cond_pos (dt (by omega)), roperand_, roperand_, w64 (n := (i : Int) + 1) (by omega) (by omega), show (i : Int) + 1 = ((i + 1 : Nat) : Int) by omega, ih]
      by_cases hb : outAt x i
      · rw [if_pos (Or.inl hb)]
        unfold outAt at hb
        by_cases g : operS x (i : Int) < 0
        · simp (disch := first | omega | (simp only [List.length_append, List.length_cons, List.length_nil, List.length_set, List.length_take, List.length_drop, List.length_replicate]; omega) | fail) only [cond_t, cond_f, dt, df, w64, wu64, w8, ble_t, ble_f, ieqt, ieqf, inet, inef, Bool.not_true, Bool.not_false, Bool.true_and, Bool.and_true, Bool.false_and, Bool.and_false, Bool.not_not, dTrue, dFalse, Int.toNat_natCast, List.length_append, List.length_cons, List.length_nil, meet_self]
        · simp (disch := first | omega | (simp only [List.length_append, List.length_cons, List.length_nil, List.length_set, List.length_take, List.length_drop, List.length_replicate]; omega) | fail) only [cond_t, cond_f, dt, df, w64, wu64, w8, ble_t, ble_f, ieqt, ieqf, inet, inef, Bool.not_true, Bool.not_false, Bool.true_and, Bool.and_true, Bool.false_and, Bool.and_false, Bool.not_not, dTrue, dFalse, Int.toNat_natCast, List.length_append, List.length_cons, List.length_nil, meet_self]
      · rw [if_iff (or_iff_right hb)]
        unfold outAt at hb
        simp (disch := first | omega | (simp only [List.length_append, List.length_cons, List.length_nil, List.length_set, List.length_take, List.length_drop, List.length_replicate]; omega) | fail) only [cond_t, cond_f, dt, df, w64, wu64, w8, ble_t, ble_f, ieqt, ieqf, inet, inef, Bool.not_true, Bool.not_false, Bool.true_and, Bool.and_true, Bool.false_and, Bool.and_false, Bool.not_not, dTrue, dFalse, Int.toNat_natCast, List.length_append, List.length_cons, List.length_nil, meet_self]
    · rw [if_neg (ex_none h)]
      simp (disch := first | omega | (simp only [List.length_append, List.length_cons, List.length_nil, List.length_set, List.length_take, List.length_drop, List.length_replicate]; omega) | fail) only [cond_t, cond_f, dt, df, w64, wu64, w8, ble_t, ble_f, ieqt, ieqf, inet, inef, Bool.not_true, Bool.not_false, Bool.true_and, Bool.and_true, Bool.false_and, Bool.and_false, Bool.not_not, dTrue, dFalse, Int.toNat_natCast, List.length_append, List.length_cons, List.length_nil, meet_self]
open Classical in
theorem chkL (x : In) (k1 : Int → Option Bool) (k2 : In → Int → Int → Int → Int → Int → Option Bool) : ∀ (n i : Nat), i ≤ 3 → 3 - i < n → instr_Check_L0 n 3 (i : Int) x x.1 x.2.1 x.2.2.1 x.2.2.2.1 x.2.2.2.2.1 k1 k2 = if ∃ j, i ≤ j ∧ j < 3 ∧ outAt x j then k1 9 else k2 x x.1 x.2.1 x.2.2.1 x.2.2.2.1 x.2.2.2.2.1
  | 0, i, _, h => by omega
  | n + 1, i, h0, h1 => by
    rw [instr_Check_L0]
    unfold instr_Check_L0.body
    by_cases h : i < 3
    · rw [if_iff (ex_step h)]
      have ih := chkL x k1 k2 n (i + 1) (by omega) (by omega)
      have e : List.getD (x.1 :: (x.2.1 :: (x.2.2.1 :: (x.2.2.2.1 :: (x.2.2.2.2.1 :: []))))) (1 + ((i : Int)).toNat) 0 = operS x (i : Int) := by
        rw [Int.toNat_natCast, Nat.add_comm, List.getD_cons_succ]
        exact fields_oper x i (by omega)
      rw [cond_pos (dt (by omega)), cond_pos (by simp; omega), e, w64 (n := (i : Int) + 1) (by omega) (by omega), show (i : Int) + 1 = ((i + 1 : Nat) : Int) by omega, ih]
      by_cases hb : outAt x i
      · rw [if_pos (Or.inl hb)]
        unfold outAt at hb
        by_cases g : operS x (i : Int) < 0
        · simp (disch := first | omega | (simp only [List.length_append, List.length_cons, List.length_nil, List.length_set, List.length_take, List.length_drop, List.length_replicate]; omega) | fail) only [cond_t, cond_f, dt, df, w64, wu64, w8, ble_t, ble_f, ieqt, ieqf, inet, inef, Bool.not_true, Bool.not_false, Bool.true_and, Bool.and_true, Bool.false_and, Bool.and_false, Bool.not_not, dTrue, dFalse, Int.toNat_natCast, List.length_append, List.length_cons, List.length_nil, meet_self]
        · simp (disch := first | omega | (simp only [List.length_append, List.length_cons, List.length_nil, List.length_set, List.length_take, List.length_drop, List.length_replicate]; omega) | fail) only [cond_t, cond_f, dt, df, w64, wu64, w8, ble_t, ble_f, ieqt, ieqf, inet, inef, Bool.not_true, Bool.not_false, Bool.true_and, Bool.and_true, Bool.false_and, Bool.and_false, Bool.not_not, dTrue, dFalse, Int.toNat_natCast, List.length_append, List.length_cons, List.length_nil, meet_self]
      · rw [if_iff (or_iff_right hb)]
        unfold outAt at hb
        simp (disch := first | omega | (simp only [List.length_append, List.length_cons, List.length_nil, List.length_set, List.length_take, List.length_drop, List.length_replicate]; omega) | fail) only [cond_t, cond_f, dt, df, w64, wu64, w8, ble_t, ble_f, ieqt, ieqf, inet, inef, Bool.not_true, Bool.not_false, Bool.true_and, Bool.and_true, Bool.false_and, Bool.and_false, Bool.not_not, dTrue, dFalse, Int.toNat_natCast, List.length_append, List.length_cons, List.length_nil, meet_self]
    · rw [if_neg (ex_none h)]
      simp (disch := first | omega | (simp only [List.length_append, List.length_cons, List.length_nil, List.length_set, List.length_take, List.length_drop, List.length_replicate]; omega) | fail) only [cond_t, cond_f, dt, df, w64, wu64, w8, ble_t, ble_f, ieqt, ieqf, inet, inef, Bool.not_true, Bool.not_false, Bool.true_and, Bool.and_true, Bool.false_and, Bool.and_false, Bool.not_not, dTrue, dFalse, Int.toNat_natCast, List.length_append, List.length_cons, List.length_nil, meet_self]
open Classical in
theorem rdashL (s : ByteArray) (hs : s.size ≤ 4) (x : In) (k1 : Int → Option Bool) (k2 : Option Bool) : ∀ (n i : Nat), i ≤ s.size → s.size - i < n → ref08_Check_L2 n s (i : Int) x k1 k2 = if ∃ j, i ≤ j ∧ j < s.size ∧ (dashAt s j ∧ operS x (j : Int) ≠ 0) then k1 2 else k2
  | 0, i, _, h => by omega
  | n + 1, i, h0, h1 => by
    rw [ref08_Check_L2]
    unfold ref08_Check_L2.body
    by_cases h : i < s.size
    · rw [if_iff (ex_step h)]
      have ih := rdashL s hs x k1 k2 n (i + 1) (by omega) (by omega)
      rw [cond_pos (dt (by omega)), cond_pos (by simp; omega), roperand_, w64 (n := (i : Int) + 1) (by omega) (by omega), show (i : Int) + 1 = ((i + 1 : Nat) : Int) by omega, ih, Int.toNat_natCast]
      by_cases hd : dashAt s i
      · by_cases ho : operS x (i : Int) ≠ 0
        · rw [if_pos (Or.inl ⟨hd, ho⟩)]
          unfold dashAt at hd
          simp (disch := first | omega | (simp only [List.length_append, List.length_cons, List.length_nil, List.length_set, List.length_take, List.length_drop, List.length_replicate]; omega) | fail) only [cond_t, cond_f, dt, df, w64, wu64, w8, ble_t, ble_f, ieqt, ieqf, inet, inef, Bool.not_true, Bool.not_false, Bool.true_and, Bool.and_true, Bool.false_and, Bool.and_false, Bool.not_not, dTrue, dFalse, Int.toNat_natCast, List.length_append, List.length_cons, List.length_nil, meet_self]
        · rw [if_iff (or_iff_right (fun g => ho g.2))]
          unfold dashAt at hd
          simp (disch := first | omega | (simp only [List.length_append, List.length_cons, List.length_nil, List.length_set, List.length_take, List.length_drop, List.length_replicate]; omega) | fail) only [cond_t, cond_f, dt, df, w64, wu64, w8, ble_t, ble_f, ieqt, ieqf, inet, inef, Bool.not_true, Bool.not_false, Bool.true_and, Bool.and_true, Bool.false_and, Bool.and_false, Bool.not_not, dTrue, dFalse, Int.toNat_natCast, List.length_append, List.length_cons, List.length_nil, meet_self]
      · rw [if_iff (or_iff_right (fun g => hd g.1))]
        unfold dashAt at hd
        simp (disch := first | omega | (simp only [List.length_append, List.length_cons, List.length_nil, List.length_set, List.length_take, List.length_drop, List.length_replicate]; omega) | fail) only [cond_t, cond_f, dt, df, w64, wu64, w8, ble_t, ble_f, ieqt, ieqf, inet, inef, Bool.not_true, Bool.not_false, Bool.true_and, Bool.and_true, Bool.false_and, Bool.and_false, Bool.not_not, dTrue, dFalse, Int.toNat_natCast, List.length_append, List.length_cons, List.length_nil, meet_self]
    · rw [if_neg (ex_none h)]
      simp (disch := first | omega | (simp only [List.length_append, List.length_cons, List.length_nil, List.length_set, List.length_take, List.length_drop, List.length_replicate]; omega) | fail) only [cond_t, cond_f, dt, df, w64, wu64, w8, ble_t, ble_f, ieqt, ieqf, inet, inef, Bool.not_true, Bool.not_false, Bool.true_and, Bool.and_true, Bool.false_and, Bool.and_false, Bool.not_not, dTrue, dFalse, Int.toNat_natCast, List.length_append, List.length_cons, List.length_nil, meet_self]
open Classical in
theorem dashL (s : ByteArray) (hs : s.size ≤ 4) (x : In) (k1 : Int → Option Bool) (k2 : Option Bool) : ∀ (n i : Nat), i ≤ s.size → s.size - i < n → instr_Check_L2 n s (s.size : Int) (i : Int) x.1 x.2.1 x.2.2.1 x.2.2.2.1 x.2.2.2.2.1 k1 k2 = if ∃ j, i ≤ j ∧ j < s.size ∧ (dashAt s j ∧ operS x (j : Int) ≠ 0) then k1 2 else k2
  | 0, i, _, h => by omega
  | n + 1, i, h0, h1 => by
    rw [instr_Check_L2]
    unfold instr_Check_L2.body
    by_cases h : i < s.size
    · rw [if_iff (ex_step h)]
      have ih := dashL s hs x k1 k2 n (i + 1) (by omega) (by omega)
      have e : List.getD (x.1 :: (x.2.1 :: (x.2.2.1 :: (x.2.2.2.1 :: (x.2.2.2.2.1 :: []))))) (1 + (i : Int)).toNat 0 = operS x (i : Int) := by
        rw [show (1 + (i : Int)).toNat = i + 1 by omega, List.getD_cons_succ]
        exact fields_oper x i (by omega)
      rw [cond_pos (dt (by omega)), cond_pos (by simp; omega), w64 (n := 1 + (i : Int)) (by omega) (by omega), e, w64 (n := (i : Int) + 1) (by omega) (by omega), show (i : Int) + 1 = ((i + 1 : Nat) : Int) by omega, ih, Int.toNat_natCast]
      by_cases hd : dashAt s i
      · by_cases ho : operS x (i : Int) ≠ 0
        · rw [if_pos (Or.inl ⟨hd, ho⟩)]
          unfold dashAt at hd
          simp (disch := first | omega | (simp only [List.length_append, List.length_cons, List.length_nil, List.length_set, List.length_take, List.length_drop, List.length_replicate]; omega) | fail) only [cond_t, cond_f, dt, df, w64, wu64, w8, ble_t, ble_f, ieqt, ieqf, inet, inef, Bool.not_true, Bool.not_false, Bool.true_and, Bool.and_true, Bool.false_and, Bool.and_false, Bool.not_not, dTrue, dFalse, Int.toNat_natCast, List.length_append, List.length_cons, List.length_nil, meet_self]
        · rw [if_iff (or_iff_right (fun g => ho g.2))]
          unfold dashAt at hd
          simp (disch := first | omega | (simp only [List.length_append, List.length_cons, List.length_nil, List.length_set, List.length_take, List.length_drop, List.length_replicate]; omega) | fail) only [cond_t, cond_f, dt, df, w64, wu64, w8, ble_t, ble_f, ieqt, ieqf, inet, inef, Bool.not_true, Bool.not_false, Bool.true_and, Bool.and_true, Bool.false_and, Bool.and_false, Bool.not_not, dTrue, dFalse, Int.toNat_natCast, List.length_append, List.length_cons, List.length_nil, meet_self]
      · rw [if_iff (or_iff_right (fun g => hd g.1))]
        unfold dashAt at hd
        simp (disch := first | omega | (simp only [List.length_append, List.length_cons, List.length_nil, List.length_set, List.length_take, List.length_drop, List.length_replicate]; omega) | fail) only [cond_t, cond_f, dt, df, w64, wu64, w8, ble_t, ble_f, ieqt, ieqf, inet, inef, Bool.not_true, Bool.not_false, Bool.true_and, Bool.and_true, Bool.false_and, Bool.and_false, Bool.not_not, dTrue, dFalse, Int.toNat_natCast, List.length_append, List.length_cons, List.length_nil, meet_self]
    · rw [if_neg (ex_none h)]
      simp (disch := first | omega | (simp only [List.length_append, List.length_cons, List.length_nil, List.length_set, List.length_take, List.length_drop, List.length_replicate]; omega) | fail) only [cond_t, cond_f, dt, df, w64, wu64, w8, ble_t, ble_f, ieqt, ieqf, inet, inef, Bool.not_true, Bool.not_false, Bool.true_and, Bool.and_true, Bool.false_and, Bool.and_false, Bool.not_not, dTrue, dFalse, Int.toNat_natCast, List.length_append, List.length_cons, List.length_nil, meet_self]
theorem noName (s : ByteArray) : (ByteArray.toList s == ByteArray.toList (⟨#[]⟩ : ByteArray)) = decide (s.toList = []) := by
  have : ByteArray.toList (⟨#[]⟩ : ByteArray) = [] := by kernel_rfl
  rw [this]
  by_cases h : s.toList = []
  · rw [h]; rfl
  · rw [df h, beq_eq_false_iff_ne]; exact h
theorem check_ (x : In) (k : Int → Option Bool) : instr_Check x k = k (checkI x) := by
  unfold instr_Check instr_Check.body instr_numbers instr_numbers.body checkI
  have hsz := shapeS_size x.1
  rw [name_]
  dsimp only
  rw [noName]
  by_cases h1 : (nameS x.1).toList = []
  · rw [if_pos h1, dt h1, cond_t]
  · rw [if_neg h1, df h1, cond_f]
    refine (chkL x _ _ ROUNDS 0 (by omega) (by unfold ROUNDS; omega)).trans ?_
    split
    · rfl
    · rw [shape_]
      by_cases h3 : x.2.2.2.2.1 < -2147483648
      · rw [if_pos (.inl h3)]
        simp (disch := first | omega | (simp only [List.length_append, List.length_cons, List.length_nil, List.length_set, List.length_take, List.length_drop, List.length_replicate]; omega) | fail) only [cond_t, cond_f, dt, df, w64, wu64, w8, ble_t, ble_f, ieqt, ieqf, inet, inef, Bool.not_true, Bool.not_false, Bool.true_and, Bool.and_true, Bool.false_and, Bool.and_false, Bool.not_not, dTrue, dFalse, Int.toNat_natCast, List.length_append, List.length_cons, List.length_nil, meet_self]
      · by_cases h4 : x.2.2.2.2.1 > 2147483647
        · rw [if_pos (.inr h4)]
          simp (disch := first | omega | (simp only [List.length_append, List.length_cons, List.length_nil, List.length_set, List.length_take, List.length_drop, List.length_replicate]; omega) | fail) only [cond_t, cond_f, dt, df, w64, wu64, w8, ble_t, ble_f, ieqt, ieqf, inet, inef, Bool.not_true, Bool.not_false, Bool.true_and, Bool.and_true, Bool.false_and, Bool.and_false, Bool.not_not, dTrue, dFalse, Int.toNat_natCast, List.length_append, List.length_cons, List.length_nil, meet_self]
        · rw [if_neg (by omega), cond_pos (not_t h3), cond_neg (df h4)]
          refine (dashL _ hsz x _ _ ROUNDS 0 (by omega) (by unfold ROUNDS; omega)).trans ?_
          split <;> rfl
theorem rcheck_ (x : In) (k : Int → Option Bool) : ref08_Check x k = k (checkI x) := by
  unfold ref08_Check ref08_Check.body checkI
  have hsz := shapeS_size x.1
  rw [rname_]
  rw [noName]
  by_cases h1 : (nameS x.1).toList = []
  · rw [if_pos h1, dt h1, cond_t]
  · rw [if_neg h1, df h1, cond_f]
    refine (rchkL x _ _ ROUNDS 0 (by omega) (by unfold ROUNDS; omega)).trans ?_
    split
    · rfl
    · rw [rshape_]
      by_cases h3 : x.2.2.2.2.1 < -2147483648
      · rw [if_pos (.inl h3)]
        simp (disch := first | omega | (simp only [List.length_append, List.length_cons, List.length_nil, List.length_set, List.length_take, List.length_drop, List.length_replicate]; omega) | fail) only [cond_t, cond_f, dt, df, w64, wu64, w8, ble_t, ble_f, ieqt, ieqf, inet, inef, Bool.not_true, Bool.not_false, Bool.true_and, Bool.and_true, Bool.false_and, Bool.and_false, Bool.not_not, dTrue, dFalse, Int.toNat_natCast, List.length_append, List.length_cons, List.length_nil, meet_self]
      · by_cases h4 : x.2.2.2.2.1 > 2147483647
        · rw [if_pos (.inr h4)]
          simp (disch := first | omega | (simp only [List.length_append, List.length_cons, List.length_nil, List.length_set, List.length_take, List.length_drop, List.length_replicate]; omega) | fail) only [cond_t, cond_f, dt, df, w64, wu64, w8, ble_t, ble_f, ieqt, ieqf, inet, inef, Bool.not_true, Bool.not_false, Bool.true_and, Bool.and_true, Bool.false_and, Bool.and_false, Bool.not_not, dTrue, dFalse, Int.toNat_natCast, List.length_append, List.length_cons, List.length_nil, meet_self]
        · rw [if_neg (by omega), cond_pos (not_t h3), cond_neg (df h4)]
          refine (rdashL _ hsz x _ _ ROUNDS 0 (by omega) (by unfold ROUNDS; omega)).trans ?_
          split <;> rfl
abbrev Ln := Int × Int × Unit
abbrev Rl := Int × Int × Bool × Unit
abbrev FnT := Int × (List Int × (Int × (Bool × (Int × (Int × (List Ln × (List Ins × (List Rl × Unit))))))))
theorem teq {F G : (ι → O) → O} (e : ∀ K, F K = G K) (h : T P G) : T P F := h.eq e
theorem dts {a b : ByteArray} : (a.toList == b.toList) = decide (a.toList = b.toList) := by
  by_cases h : a.toList = b.toList
  · rw [h, dt rfl]; exact beq_self_eq_true _
  · rw [df h, beq_eq_false_iff_ne]; exact h
/-! classes, kinds -/
theorem sigIs_ (n : Int) (K : Bool → O) : sig_Is n K = K (decide (0 ≤ n ∧ n ≤ 7)) := by
  unfold sig_Is sig_Is.body
  by_cases h : n ≥ 0
  · rw [dt h, cond_t]
    by_cases h2 : n < 8
    · rw [dt h2, dt ⟨h, by omega⟩]
    · rw [df h2, df (fun e => by omega)]
  · rw [df h, cond_f, df (fun e => h e.1)]
theorem rsigIs_ (n : Int) (K : Bool → O) : ref05_Is n K = K (decide (0 ≤ n ∧ n ≤ 7)) := by
  unfold ref05_Is ref05_Is.body
  by_cases h : n ≥ 0
  · rw [dt h, cond_t]
    by_cases h2 : n ≤ 7
    · rw [dt h2, dt ⟨h, by omega⟩]
    · rw [df h2, df (fun e => by omega)]
  · rw [df h, cond_f, df (fun e => h e.1)]
def parV (n : Int) : Int := if 0 ≤ n ∧ n ≤ 7 then n.tdiv 2 else 0
theorem fdiv2 {n : Int} (h : 0 ≤ n) : n.fdiv 2 = n.tdiv 2 := by
  obtain ⟨m, rfl⟩ : ∃ m : Nat, n = m := ⟨n.toNat, by omega⟩
  rw [Int.fdiv_eq_ediv_of_nonneg _ (by decide), Int.tdiv_eq_ediv_of_nonneg (by omega)]
theorem sigPar_ (n : Int) (K : Int → O) : sig_Params n K = K (parV n) := by
  unfold sig_Params sig_Params.body parV
  rw [sigIs_]
  by_cases h : 0 ≤ n ∧ n ≤ 7
  · rw [dt h, if_pos h]
    simp only [Bool.not_true, cond_f]
    rw [fdiv2 h.1]
  · rw [df h, if_neg h]
    simp only [Bool.not_false, cond_t]
theorem rsigPar_ (n : Int) (K : Int → O) : ref05_Params n K = K (parV n) := by
  unfold ref05_Params ref05_Params.body parV
  rw [rsigIs_]
  by_cases h : 0 ≤ n ∧ n ≤ 7
  · rw [dt h, if_pos h]
    simp only [Bool.not_true, cond_f]
    rw [w64 (by have := Int.tdiv_nonneg h.1 (show (0 : Int) ≤ 2 by decide); omega) (by have : n.tdiv 2 ≤ 7 := Int.le_trans (by rw [Int.tdiv_eq_ediv_of_nonneg h.1]; omega) h.2; omega)]
  · rw [df h, if_neg h]
    simp only [Bool.not_false, cond_t]
/-- a kind has a text -/
def KindOk (n : Int) : Prop := 0 ≤ n ∧ n ≤ 8
instance (n : Int) : Decidable (KindOk n) := by unfold KindOk; exact inferInstance
def TextAs (n : Int) (F : (ByteArray → O) → O) : Prop := ∃ s : ByteArray, (∀ K, F K = K s) ∧ (s.toList == (⟨#[]⟩ : ByteArray).toList) = decide (¬ KindOk n)
theorem Tx_0 : TextAs 0 (sig_Text 0) := ⟨(⟨#[110]⟩ : ByteArray), fun K => by kernel_rfl, by kernel_rfl⟩
theorem Ty_0 : TextAs 0 (ref05_Text 0) := ⟨(⟨#[110]⟩ : ByteArray), fun K => by kernel_rfl, by kernel_rfl⟩
theorem Tx_1 : TextAs 1 (sig_Text 1) := ⟨(⟨#[102, 48]⟩ : ByteArray), fun K => by kernel_rfl, by kernel_rfl⟩
theorem Ty_1 : TextAs 1 (ref05_Text 1) := ⟨(⟨#[102, 48]⟩ : ByteArray), fun K => by kernel_rfl, by kernel_rfl⟩
theorem Tx_2 : TextAs 2 (sig_Text 2) := ⟨(⟨#[102, 48, 114]⟩ : ByteArray), fun K => by kernel_rfl, by kernel_rfl⟩
theorem Ty_2 : TextAs 2 (ref05_Text 2) := ⟨(⟨#[102, 48, 114]⟩ : ByteArray), fun K => by kernel_rfl, by kernel_rfl⟩
theorem Tx_3 : TextAs 3 (sig_Text 3) := ⟨(⟨#[102, 49]⟩ : ByteArray), fun K => by kernel_rfl, by kernel_rfl⟩
theorem Ty_3 : TextAs 3 (ref05_Text 3) := ⟨(⟨#[102, 49]⟩ : ByteArray), fun K => by kernel_rfl, by kernel_rfl⟩
theorem Tx_4 : TextAs 4 (sig_Text 4) := ⟨(⟨#[102, 49, 114]⟩ : ByteArray), fun K => by kernel_rfl, by kernel_rfl⟩
theorem Ty_4 : TextAs 4 (ref05_Text 4) := ⟨(⟨#[102, 49, 114]⟩ : ByteArray), fun K => by kernel_rfl, by kernel_rfl⟩
theorem Tx_5 : TextAs 5 (sig_Text 5) := ⟨(⟨#[102, 50]⟩ : ByteArray), fun K => by kernel_rfl, by kernel_rfl⟩
theorem Ty_5 : TextAs 5 (ref05_Text 5) := ⟨(⟨#[102, 50]⟩ : ByteArray), fun K => by kernel_rfl, by kernel_rfl⟩
theorem Tx_6 : TextAs 6 (sig_Text 6) := ⟨(⟨#[102, 50, 114]⟩ : ByteArray), fun K => by kernel_rfl, by kernel_rfl⟩
theorem Ty_6 : TextAs 6 (ref05_Text 6) := ⟨(⟨#[102, 50, 114]⟩ : ByteArray), fun K => by kernel_rfl, by kernel_rfl⟩
theorem Tx_7 : TextAs 7 (sig_Text 7) := ⟨(⟨#[102, 51]⟩ : ByteArray), fun K => by kernel_rfl, by kernel_rfl⟩
theorem Ty_7 : TextAs 7 (ref05_Text 7) := ⟨(⟨#[102, 51]⟩ : ByteArray), fun K => by kernel_rfl, by kernel_rfl⟩
theorem Tx_8 : TextAs 8 (sig_Text 8) := ⟨(⟨#[102, 51, 114]⟩ : ByteArray), fun K => by kernel_rfl, by kernel_rfl⟩
theorem Ty_8 : TextAs 8 (ref05_Text 8) := ⟨(⟨#[102, 51, 114]⟩ : ByteArray), fun K => by kernel_rfl, by kernel_rfl⟩
theorem nine {n : Int} (h : KindOk n) : n = 0 ∨ n = 1 ∨ n = 2 ∨ n = 3 ∨ n = 4 ∨ n = 5 ∨ n = 6 ∨ n = 7 ∨ n = 8 := by
  obtain ⟨h1, h2⟩ := h
  omega
theorem emp (n : Int) (h : ¬ KindOk n) : ((⟨#[]⟩ : ByteArray).toList == (⟨#[]⟩ : ByteArray).toList) = decide (¬ KindOk n) := by rw [dt h]; exact beq_self_eq_true _
theorem text_ (n : Int) : TextAs n (sig_Text n) := by
  by_cases h : KindOk n
  · rcases nine h with rfl | rfl | rfl | rfl | rfl | rfl | rfl | rfl | rfl
    · exact Tx_0
    · exact Tx_1
    · exact Tx_2
    · exact Tx_3
    · exact Tx_4
    · exact Tx_5
    · exact Tx_6
    · exact Tx_7
    · exact Tx_8
  · refine ⟨⟨#[]⟩, fun K => ?_, emp n h⟩
    unfold sig_Text sig_Text.body sig_texts sig_texts.body
    dsimp only
    unfold KindOk at h
    by_cases h1 : n < 0
    · rw [dt h1]; simp only [Bool.not_true, cond_f]
    · rw [df h1]
      simp only [Bool.not_false, cond_t]
      rw [dt (show n ≥ _ by simp only [List.length_cons, List.length_nil]; omega), cond_t]
def in64 (n : Int) : Prop := -9223372036854775808 ≤ n ∧ n ≤ 9223372036854775807
theorem rtext_ (n : Int) (hr : in64 n) : TextAs n (ref05_Text n) := by
  by_cases h : KindOk n
  · rcases nine h with rfl | rfl | rfl | rfl | rfl | rfl | rfl | rfl | rfl
    · exact Ty_0
    · exact Ty_1
    · exact Ty_2
    · exact Ty_3
    · exact Ty_4
    · exact Ty_5
    · exact Ty_6
    · exact Ty_7
    · exact Ty_8
  · refine ⟨⟨#[]⟩, fun K => ?_, emp n h⟩
    unfold ref05_Text ref05_Text.body ref05_Class ref05_Class.body
    unfold KindOk at h
    have h0 : (n == 0) = false := by rw [beq_eq_false_iff_ne]; omega
    rw [h0, cond_f, rsigIs_]
    have hw : ¬ (0 ≤ IntKind.wrap .i64 (n - 1) ∧ IntKind.wrap .i64 (n - 1) ≤ 7) := by
      by_cases hm : n = -9223372036854775808
      · subst hm
        rw [show IntKind.wrap .i64 ((-9223372036854775808 : Int) - 1) = 9223372036854775807 by kernel_rfl]
        omega
      · obtain ⟨r1, r2⟩ := hr
        rw [w64 (by omega) (by omega)]
        omega
    rw [df hw]
    simp only [Bool.not_false, cond_t]
theorem tc_ite {p : Prop} [Decidable p] {b : Bool} (e : b = decide p) {F G : (ι → O) → O} (h1 : p → T P F) (h2 : ¬ p → T P G) : T P (fun K => cond_ b (F K) (G K)) := by rw [e]; exact tcd h1 h2
/-! slots -/
def SlotBad (f : FnT) (j : Nat) : Prop := ¬ KindOk (f.2.1.getD j 0) ∨ ((j : Int) < parV f.1 ∧ f.2.1.getD j 0 ≠ 0)
open Classical in
noncomputable def slotsV (f : FnT) : Int := if ¬ (0 ≤ f.1 ∧ f.1 ≤ 7) then 14 else if (f.2.1.length : Int) > 16 then 6 else if (f.2.1.length : Int) < parV f.1 then 2 else if ∃ j : Nat, j < f.2.1.length ∧ SlotBad f j then 8 else 0
theorem slotsL_ {f : FnT} (hl : f.2.1.length ≤ 1000) {H1 : Int → (ι → O) → O} {H2 : (ι → O) → O} (h1 : (∃ j : Nat, j < f.2.1.length ∧ SlotBad f j) → T P (H1 8)) (h2 : (¬ ∃ j : Nat, j < f.2.1.length ∧ SlotBad f j) → T P H2) : ∀ {m : Nat} {i : Int}, 0 ≤ i → i ≤ (f.2.1.length : Int) → (f.2.1.length : Int) < i + m → (∀ j : Nat, (j : Int) < i → ¬ SlotBad f j) → T P (fun K => fun_slots_L1 m (parV f.1) f.2.1 (f.2.1.length : Int) i (fun a => H1 a K) (H2 K)) := by
  intro m
  induction m with
  | zero => intros; omega
  | succ m ih =>
    intro i g0 g1 g2 g3
    rw [fun_slots_L1]
    unfold fun_slots_L1.body
    refine tcd (fun q => tna g0 q ?_) (fun q => ?_)
    · obtain ⟨e1, e2, e3⟩ := wi g0 q (by omega)
      have hit : SlotBad f i.toNat → T P (H1 8) := fun hb => h1 ⟨i.toNat, by omega, hb⟩
      have miss : ¬ SlotBad f i.toNat → T P (fun K => fun_slots_L1 m (parV f.1) f.2.1 (f.2.1.length : Int) (IntKind.wrap .i64 (i + 1)) (fun a => H1 a K) (H2 K)) := fun hb => by
        rw [e1]
        refine ih (by omega) (by omega) (by omega) fun j hj => ?_
        by_cases hji : (j : Int) < i
        · exact g3 j hji
        · have : j = i.toNat := by omega
          rw [this]; exact hb
      unfold SlotBad at hit miss
      rw [e3] at hit miss
      generalize f.2.1.getD i.toNat 0 = v at hit miss ⊢
      obtain ⟨s, t1, t2⟩ := text_ v
      refine teq (fun K => t1 _) ?_
      refine tcn (tc_ite t2 (fun hk => hit (.inl hk)) (fun hk => ?_))
      exact tcd (fun hp => tcne (fun hv => hit (.inr ⟨hp, hv⟩)) (fun hv => miss (fun h => h.elim hk (fun h => h.2 hv)))) (fun hp => miss (fun h => h.elim hk (fun h => hp h.1)))
    · exact h2 (fun ⟨j, hj, hb⟩ => g3 j (by omega) hb)
theorem slots_ {f : FnT} (hl : f.2.1.length ≤ 1000) {H1 : Int → (ι → O) → O} (h : T P (H1 (slotsV f))) : T P (fun K => fun_slots f (fun a => H1 a K)) := by
  have hR := rb
  unfold fun_slots fun_slots.body
  unfold slotsV at h
  refine teq (fun K => sigPar_ _ _) (teq (fun K => sigIs_ _ _) ?_)
  refine tcn (tcd (fun q => ?_) (fun q => by rw [if_pos q] at h; exact h))
  rw [if_neg (fun e => e q)] at h
  refine tcd (fun q => by rw [if_pos q] at h; exact h) (fun q => ?_)
  rw [if_neg q] at h
  refine tcd (fun q => by rw [if_pos q] at h; exact h) (fun q => ?_)
  rw [if_neg q] at h
  exact slotsL_ (H1 := H1) (H2 := H1 0) hl (fun hb => by rw [if_pos hb] at h; exact h) (fun hb => by rw [if_neg hb] at h; exact h) (Int.le_refl _) (by omega) (by omega) (fun j hj => by omega)
theorem rslotsL_ {f : FnT} (hl : f.2.1.length ≤ 1000) (hk : ∀ x ∈ f.2.1, in64 x) {H1 : Int → (ι → O) → O} {H2 : (ι → O) → O} (h1 : (∃ j : Nat, j < f.2.1.length ∧ SlotBad f j) → T P (H1 8)) (h2 : (¬ ∃ j : Nat, j < f.2.1.length ∧ SlotBad f j) → T P H2) : ∀ {m : Nat} {i : Int}, 0 ≤ i → i ≤ (f.2.1.length : Int) → (f.2.1.length : Int) < i + m → (∀ j : Nat, (j : Int) < i → ¬ SlotBad f j) → T P (fun K => ref16_slots_L0 m i f (fun a => H1 a K) (H2 K)) := by
  intro m
  induction m with
  | zero => intros; omega
  | succ m ih =>
    intro i g0 g1 g2 g3
    rw [ref16_slots_L0]
    unfold ref16_slots_L0.body
    refine tcd (fun q => tna g0 q ?_) (fun q => ?_)
    · obtain ⟨e1, e2, e3⟩ := wi g0 q (by omega)
      have hit : SlotBad f i.toNat → T P (H1 8) := fun hb => h1 ⟨i.toNat, by omega, hb⟩
      have miss : ¬ SlotBad f i.toNat → T P (fun K => ref16_slots_L0 m (IntKind.wrap .i64 (i + 1)) f (fun a => H1 a K) (H2 K)) := fun hb => by
        rw [e1]
        refine ih (by omega) (by omega) (by omega) fun j hj => ?_
        by_cases hji : (j : Int) < i
        · exact g3 j hji
        · have : j = i.toNat := by omega
          rw [this]; exact hb
      have hv : in64 (f.2.1.getD i.toNat 0) := getD_all (p := in64) hk ⟨by decide, by decide⟩ _
      unfold SlotBad at hit miss
      rw [e3] at hit miss
      obtain ⟨s, t1, t2⟩ := rtext_ (f.2.1.getD i.toNat 0) hv
      refine teq (fun K => t1 _) ?_
      refine tcn (tc_ite t2 (fun hk => hit (.inl hk)) (fun hk => ?_))
      refine teq (fun K => rsigPar_ _ _) ?_
      exact tcd (fun hp => tna g0 q (tcne (fun hv => hit (.inr ⟨hp, hv⟩)) (fun hv => miss (fun h => h.elim hk (fun h => h.2 hv))))) (fun hp => miss (fun h => h.elim hk (fun h => hp h.1)))
    · exact h2 (fun ⟨j, hj, hb⟩ => g3 j (by omega) hb)
theorem rslots_ {f : FnT} (hl : f.2.1.length ≤ 1000) (hk : ∀ x ∈ f.2.1, in64 x) {H1 : Int → (ι → O) → O} (h : T P (H1 (slotsV f))) : T P (fun K => ref16_slots f (fun a => H1 a K)) := by
  have hR := rb
  unfold ref16_slots ref16_slots.body
  unfold slotsV at h
  refine teq (fun K => rsigIs_ _ _) ?_
  refine tcn (tcd (fun q => ?_) (fun q => by rw [if_pos q] at h; exact h))
  rw [if_neg (fun e => e q)] at h
  refine tcd (fun q => by rw [if_pos q] at h; exact h) (fun q => ?_)
  rw [if_neg q] at h
  refine teq (fun K => rsigPar_ _ _) ?_
  refine tcd (fun q => by rw [if_pos q] at h; exact h) (fun q => ?_)
  rw [if_neg q] at h
  exact rslotsL_ (H1 := H1) (H2 := H1 0) hl hk (fun hb => by rw [if_pos hb] at h; exact h) (fun hb => by rw [if_neg hb] at h; exact h) (Int.le_refl _) (by omega) (by omega) (fun j hj => by omega)
/-! code -/
def ownP (n : Int) : Prop := 1 ≤ n ∧ n ≤ 24
instance (n : Int) : Decidable (ownP n) := by unfold ownP; exact inferInstance
theorem op_Own_ (n : Int) (K : Bool → O) : op_Own n K = K (decide (ownP n)) := by
  unfold op_Own op_Own.body
  by_cases h : n ≥ 1
  · rw [dt h, cond_t]
    by_cases h2 : n ≤ 24
    · rw [dt h2, dt (show ownP n from ⟨h, h2⟩)]
    · rw [df h2, df (show ¬ ownP n from fun e => h2 e.2)]
  · rw [df h, cond_f, df (show ¬ ownP n from fun e => h e.1)]
theorem ref07_Own_ (n : Int) (K : Bool → O) : ref07_Own n K = K (decide (ownP n)) := by
  unfold ref07_Own ref07_Own.body
  by_cases h : n ≥ 1
  · rw [dt h, cond_t]
    by_cases h2 : n ≤ 24
    · rw [dt h2, dt (show ownP n from ⟨h, h2⟩)]
    · rw [df h2, df (show ¬ ownP n from fun e => h2 e.2)]
  · rw [df h, cond_f, df (show ¬ ownP n from fun e => h e.1)]
noncomputable def insV (x : Ins) : Int := if checkI x ≠ 0 then checkI x else if ¬ ownP x.1 then 8 else 0
theorem insV_c {x : Ins} (h : checkI x ≠ 0) : insV x = checkI x := if_pos h
theorem insV_o {x : Ins} (h : checkI x = 0) (ho : ¬ ownP x.1) : insV x = 8 := (if_neg (fun e => e h)).trans (if_pos ho)
theorem insV_0 {x : Ins} (h : checkI x = 0) (ho : ownP x.1) : insV x = 0 := (if_neg (fun e => e h)).trans (if_neg (fun e => e ho))
noncomputable def insL (l : List Ins) : Int := match l with
  | [] => 0
  | x :: r => if insV x ≠ 0 then insV x else insL r
noncomputable def codeV (code : List Ins) : Int := if chkV code ≠ 0 then chkV code else insL code
theorem drop_insL {l : List Ins} {i : Int} {d : Ins} (h0 : 0 ≤ i) (h1 : i < (l.length : Int)) : insL (l.drop i.toNat) = if insV (l.getD i.toNat d) ≠ 0 then insV (l.getD i.toNat d) else insL (l.drop (i.toNat + 1)) := by
  rw [drop_c (d := d) h0 h1, insL]
theorem codeL_ {l : List Ins} (hl : l.length ≤ 1000) {H1 : Int → (ι → O) → O} {H2 : (ι → O) → O} (h1 : insL l ≠ 0 → T P (H1 (insL l))) (h2 : insL l = 0 → T P H2) : ∀ {m : Nat} {i : Int}, 0 ≤ i → i ≤ (l.length : Int) → (l.length : Int) < i + m → insL (l.drop i.toNat) = insL l → T P (fun K => fun_code_L0 m l (l.length : Int) i (fun a => H1 a K) (H2 K)) := by
  intro m
  induction m with
  | zero => intros; omega
  | succ m ih =>
    intro i g0 g1 g2 g3
    rw [fun_code_L0]
    unfold fun_code_L0.body
    refine tcd (fun q => tna g0 q ?_) (fun q => ?_)
    · obtain ⟨e1, e2, e3⟩ := wi g0 q (by omega)
      rw [drop_insL (d := (0, (0, (0, (0, (0, ())))))) g0 q] at g3
      generalize l.getD i.toNat (0, (0, (0, (0, (0, ()))))) = v at g3 ⊢
      refine teq (fun K => check_ _ _) ?_
      refine tcne (fun hc => ?_) (fun hc => teq (fun K => op_Own_ _ _) (tcn (tcd (fun ho => ?_) (fun ho => ?_))))
      · rw [insV_c hc, if_pos hc] at g3
        rw [g3]
        exact h1 (by rw [← g3]; exact hc)
      · rw [insV_0 hc ho, if_neg (fun e => e rfl)] at g3
        rw [e1]
        exact ih (by omega) (by omega) (by omega) (by rw [e2]; exact g3)
      · rw [insV_o hc ho, if_pos (by decide)] at g3
        rw [g3]
        exact h1 (by rw [← g3]; decide)
    · rw [List.drop_eq_nil_of_le (by omega)] at g3
      exact h2 g3.symm
theorem CK_ {code : List Ins} (hl : code.length ≤ 100) {H1 : Int → (ι → O) → O} (h : T P (H1 (chkV code))) : T P (fun K => flow_Check code (fun a => H1 a K)) := by
  by_cases hc : code.length ≤ 80
  · exact Check_ hc h
  · unfold flow_Check flow_Check.body
    unfold chkV at h
    refine tce (fun q => absurd q (by omega)) (fun q => ?_)
    rw [if_neg q, if_pos (by omega)] at h
    exact tcd (fun _ => h) (fun q2 => absurd (show (code.length : Int) > 64 by omega) q2)
theorem RCK_ {code : List Ins} (hl : code.length ≤ 100) {H1 : Int → (ι → O) → O} (h : T P (H1 (chkV code))) : T P (fun K => ref14_Check code (fun a => H1 a K)) := by
  by_cases hc : code.length ≤ 80
  · exact RCheck_ hc h
  · unfold ref14_Check ref14_Check.body
    unfold chkV at h
    refine tce (fun q => absurd q (by omega)) (fun q => ?_)
    rw [if_neg q, if_pos (by omega)] at h
    exact tcd (fun _ => h) (fun q2 => absurd (show (code.length : Int) > 64 by omega) q2)
theorem code_ {f : FnT} (hl : f.2.2.2.2.2.2.2.1.length ≤ 100) {H1 : Int → (ι → O) → O} (h : T P (H1 (codeV f.2.2.2.2.2.2.2.1))) : T P (fun K => fun_code f (fun a => H1 a K)) := by
  have hR := rb
  unfold fun_code fun_code.body
  unfold codeV at h
  refine CK_ hl ?_
  refine tcne (fun q => by rw [if_pos q] at h; exact h) (fun q => ?_)
  rw [if_neg (fun e => e q)] at h
  exact codeL_ (H1 := H1) (H2 := H1 0) (by omega) (fun _ => h) (fun e => by rw [e] at h; exact h) (Int.le_refl _) (by omega) (by omega) rfl
theorem rcodeL_ {f : FnT} (hl : f.2.2.2.2.2.2.2.1.length ≤ 1000) {H1 : Int → (ι → O) → O} {H2 : (ι → O) → O} (h1 : insL f.2.2.2.2.2.2.2.1 ≠ 0 → T P (H1 (insL f.2.2.2.2.2.2.2.1))) (h2 : insL f.2.2.2.2.2.2.2.1 = 0 → T P H2) : ∀ {m : Nat} {i : Int}, 0 ≤ i → i ≤ (f.2.2.2.2.2.2.2.1.length : Int) → (f.2.2.2.2.2.2.2.1.length : Int) < i + m → insL (f.2.2.2.2.2.2.2.1.drop i.toNat) = insL f.2.2.2.2.2.2.2.1 → T P (fun K => ref16_code_L0 m i f (fun a => H1 a K) (H2 K)) := by
  intro m
  induction m with
  | zero => intros; omega
  | succ m ih =>
    intro i g0 g1 g2 g3
    rw [ref16_code_L0]
    unfold ref16_code_L0.body
    refine tcd (fun q => tna g0 q ?_) (fun q => ?_)
    · obtain ⟨e1, e2, e3⟩ := wi g0 q (by omega)
      rw [drop_insL (d := (0, (0, (0, (0, (0, ())))))) g0 q] at g3
      refine teq (fun K => rcheck_ _ _) ?_
      refine tcne (fun hc => ?_) (fun hc => tna g0 q (teq (fun K => ref07_Own_ _ _) (tcn (tcd (fun ho => ?_) (fun ho => ?_)))))
      · rw [insV_c hc, if_pos hc] at g3
        rw [g3]
        exact h1 (by rw [← g3]; exact hc)
      · rw [insV_0 hc ho, if_neg (fun e => e rfl)] at g3
        rw [e1]
        exact ih (by omega) (by omega) (by omega) (by rw [e2]; exact g3)
      · rw [insV_o hc ho, if_pos (by decide)] at g3
        rw [g3]
        exact h1 (by rw [← g3]; decide)
    · rw [List.drop_eq_nil_of_le (by omega)] at g3
      exact h2 g3.symm
theorem rcode_ {f : FnT} (hl : f.2.2.2.2.2.2.2.1.length ≤ 100) {H1 : Int → (ι → O) → O} (h : T P (H1 (codeV f.2.2.2.2.2.2.2.1))) : T P (fun K => ref16_code f (fun a => H1 a K)) := by
  have hR := rb
  unfold ref16_code ref16_code.body
  unfold codeV at h
  refine RCK_ hl ?_
  refine tcne (fun q => by rw [if_pos q] at h; exact h) (fun q => ?_)
  rw [if_neg (fun e => e q)] at h
  exact rcodeL_ (H1 := H1) (H2 := H1 0) (by omega) (fun _ => h) (fun e => by rw [e] at h; exact h) (Int.le_refl _) (by omega) (by omega) rfl
/-! places that rise -/
def RiseOk (n : Int) (l : List Int) (j : Nat) : Prop := 0 ≤ l.getD j 0 ∧ l.getD j 0 < n ∧ (0 < j → l.getD (j - 1) 0 < l.getD j 0)
theorem rising_ {n : Int} {l : List Int} (hl : l.length ≤ 1000) {H1 : Bool → (ι → O) → O} (h1 : (∀ j : Nat, j < l.length → RiseOk n l j) → T P (H1 true)) (h2 : (¬ ∀ j : Nat, j < l.length → RiseOk n l j) → T P (H1 false)) : T P (fun K => fun_rising n l (fun a => H1 a K)) := by
  have hR := rb
  unfold fun_rising fun_rising.body
  have loop : ∀ {m : Nat} {i last : Int}, 0 ≤ i → i ≤ (l.length : Int) → (l.length : Int) < i + m → (∀ j : Nat, (j : Int) < i → RiseOk n l j) → (i = 0 → last = -1) → (0 < i → last = l.getD (i.toNat - 1) 0) → T P (fun K => fun_rising_L0 m n last l (l.length : Int) i (fun a => H1 a K) (H1 true K)) := by
    intro m
    induction m with
    | zero => intros; omega
    | succ m ih =>
      intro i last g0 g1 g2 g3 g4 g5
      rw [fun_rising_L0]
      unfold fun_rising_L0.body
      refine tcd (fun q => tna g0 q ?_) (fun q => ?_)
      · obtain ⟨e1, e2, e3⟩ := wi g0 q (by omega)
        have hit : ¬ RiseOk n l i.toNat → T P (H1 false) := fun hb => h2 fun hall => hb (hall i.toNat (by omega))
        have hlast : -1 ≤ last := by
          by_cases hi : i = 0
          · rw [g4 hi]; decide
          · have hp := (g3 (i.toNat - 1) (by omega)).1
            rw [g5 (by omega)]
            omega
        refine tcn (tcd (fun ha => hit fun hb => ?_) (fun ha => tcd (fun hb => hit fun hc => ?_) (fun hb => ?_)))
        · by_cases hi : i = 0
          · have := g4 hi
            have := hb.1
            omega
          · have := hb.2.2 (by omega)
            have := g5 (by omega)
            omega
        · have := hc.2.1
          omega
        · rw [e1]
          have hme : RiseOk n l i.toNat := ⟨by omega, by omega, fun hj => by have := g5 (by omega); omega⟩
          refine ih (by omega) (by omega) (by omega) (fun j hj => ?_) (fun h => by omega) (fun _ => by rw [e2, Nat.add_sub_cancel])
          by_cases hji : (j : Int) < i
          · exact g3 j hji
          · have : j = i.toNat := by omega
            rw [this]; exact hme
      · exact h1 fun j hj => g3 j (by omega)
  exact loop (Int.le_refl _) (by omega) (by omega) (fun j hj => by omega) (fun _ => rfl) (fun h => by omega)
theorem map_getD {α : Type} (g : α → Int) {l : List α} {d : α} {j : Nat} (h : j < l.length) : (l.map g).getD j 0 = g (l.getD j d) := by
  rw [List.getD_eq_getElem?_getD, List.getElem?_map, List.getD_eq_getElem?_getD, List.getElem?_eq_getElem h]
  rfl
/-! lines -/
def dLn : Ln := (0, (0, ()))
def LineOk (n : Int) (l : List Ln) (j : Nat) : Prop := 0 ≤ (l.getD j dLn).2.1 ∧ (l.getD j dLn).2.1 ≤ 65535 ∧ 0 ≤ (l.getD j dLn).1 ∧ (l.getD j dLn).1 < n ∧ (0 < j → (l.getD (j - 1) dLn).1 < (l.getD j dLn).1) ∧ (j = 0 → (l.getD j dLn).1 = 0)
open Classical in
noncomputable def linesV (n : Int) (l : List Ln) : Int := if (l.length : Int) > 16 then 6 else if ∀ j : Nat, j < l.length → LineOk n l j then 0 else 9
theorem take_succ_getD {α : Type} {l : List α} {d : α} {i : Nat} (h : i < l.length) : l.take (i + 1) = l.take i ++ [l.getD i d] := by
  rw [List.getD_eq_getElem?_getD, List.getElem?_eq_getElem h, List.take_succ_eq_append_getElem h]
  rfl
theorem linesL_ {f : FnT} {l : List Ln} (hl : l.length ≤ 1000) {H1 : Int → (ι → O) → O} {H2 : FnT → List Int → (ι → O) → O} (h1 : (¬ ∀ j : Nat, j < l.length → 0 ≤ (l.getD j dLn).2.1 ∧ (l.getD j dLn).2.1 ≤ 65535) → T P (H1 9)) (h2 : (∀ j : Nat, j < l.length → 0 ≤ (l.getD j dLn).2.1 ∧ (l.getD j dLn).2.1 ≤ 65535) → T P (H2 f (l.map (fun x => x.1)))) : ∀ {m : Nat} {i : Int} {ns : List Int}, 0 ≤ i → i ≤ (l.length : Int) → (l.length : Int) < i + m → ns = (l.take i.toNat).map (fun x => x.1) → (∀ j : Nat, (j : Int) < i → 0 ≤ (l.getD j dLn).2.1 ∧ (l.getD j dLn).2.1 ≤ 65535) → T P (fun K => fun_lines_L0 m l (l.length : Int) i f ns (fun a => H1 a K) (fun a b => H2 a b K)) := by
  intro m
  induction m with
  | zero => intros; omega
  | succ m ih =>
    intro i ns g0 g1 g2 g3 g4
    rw [fun_lines_L0]
    unfold fun_lines_L0.body
    refine tcd (fun q => tna g0 q ?_) (fun q => ?_)
    · obtain ⟨e1, e2, e3⟩ := wi g0 q (by omega)
      have hit : ¬ (0 ≤ (l.getD i.toNat dLn).2.1 ∧ (l.getD i.toNat dLn).2.1 ≤ 65535) → T P (H1 9) := fun hb => h1 fun hall => hb (hall i.toNat (by omega))
      have hln : ns.length ≤ 1000 := by rw [g3, List.length_map, List.length_take]; omega
      refine tcn (tcd (fun ha => hit (fun hb => by have := hb.1; unfold dLn at this; omega)) (fun ha => tcd (fun hc => hit (fun hb => by have := hb.2; unfold dLn at this; omega)) (fun hc => ?_)))
      refine tnb (by simp only [List.length_cons, List.length_nil]; omega) ?_
      rw [e1]
      refine ih (by omega) (by omega) (by omega) ?_ (fun j hj => ?_)
      · rw [e2, g3, take_succ_getD (d := dLn) (by omega), List.map_append]
        rfl
      · by_cases hji : (j : Int) < i
        · exact g4 j hji
        · have : j = i.toNat := by omega
          rw [this]
          unfold dLn
          exact ⟨by omega, by omega⟩
    · rw [List.take_of_length_le (by omega)] at g3
      rw [g3]
      exact h2 fun j hj => g4 j (by omega)
theorem lines_ {f : FnT} (hl : f.2.2.2.2.2.2.1.length ≤ 1000) {H1 : Int → (ι → O) → O} (h : T P (H1 (linesV (f.2.2.2.2.2.2.2.1.length : Int) f.2.2.2.2.2.2.1))) : T P (fun K => fun_lines f (fun a => H1 a K)) := by
  have hR := rb
  unfold fun_lines fun_lines.body
  unfold linesV at h
  generalize hll : f.2.2.2.2.2.2.1 = l at *
  refine tcd (fun q => by rw [if_pos q] at h; exact h) (fun q => ?_)
  rw [if_neg q] at h
  have bad : (¬ ∀ j : Nat, j < l.length → LineOk (f.2.2.2.2.2.2.2.1.length : Int) l j) → T P (H1 9) := fun hb => by rw [if_neg hb] at h; exact h
  have good : (∀ j : Nat, j < l.length → LineOk (f.2.2.2.2.2.2.2.1.length : Int) l j) → T P (H1 0) := fun hb => by rw [if_pos hb] at h; exact h
  refine linesL_ (f := f) (H1 := H1) (H2 := fun t ns K => cond_ (decide (((ns.length : Nat) : Int) > 0)) (cond_ (true && (decide ((0 : Int) < ((ns.length : Nat) : Int)))) (cond_ (! ((ns.getD 0 (0 : Int)) != 0)) (fun_rising (t.2.2.2.2.2.2.2.1.length : Int) ns (fun b => cond_ (!b) (H1 9 K) (H1 0 K))) (H1 9 K)) none) (fun_rising (t.2.2.2.2.2.2.2.1.length : Int) ns (fun b => cond_ (!b) (H1 9 K) (H1 0 K)))) hl (fun hb => bad fun hall => hb fun j hj => ⟨(hall j hj).1, (hall j hj).2.1⟩) (fun hb => ?_) (Int.le_refl _) (by omega) (by omega) rfl (fun j hj => by omega)
  have hml : (l.map (fun x : Ln => x.1)).length = l.length := List.length_map ..
  have ris : (l.length = 0 ∨ (l.getD 0 dLn).1 = 0) → T P (fun K => fun_rising (f.2.2.2.2.2.2.2.1.length : Int) (l.map (fun x => x.1)) (fun b => cond_ (!b) (H1 9 K) (H1 0 K))) := fun h0 => by
    refine rising_ (H1 := fun b K => cond_ (!b) (H1 9 K) (H1 0 K)) (by omega) (fun hall => tcn (tct ?_)) (fun hno => tcn (tcf ?_))
    · refine good fun j hj => ?_
      have h3 := hall j (by omega)
      unfold RiseOk at h3
      rw [map_getD (d := dLn) _ hj] at h3
      refine ⟨(hb j hj).1, (hb j hj).2, h3.1, h3.2.1, fun hp => ?_, fun h => ?_⟩
      · have := h3.2.2 hp
        rwa [map_getD (d := dLn) _ (show j - 1 < l.length by omega)] at this
      · subst h
        exact h0.resolve_left (by omega)
    · refine bad fun hall => hno fun j hj => ?_
      have hj : j < l.length := by omega
      have h3 := hall j hj
      unfold RiseOk
      rw [map_getD (d := dLn) _ hj]
      refine ⟨h3.2.2.1, h3.2.2.2.1, fun hp => ?_⟩
      rw [map_getD (d := dLn) _ (show j - 1 < l.length by omega)]
      exact h3.2.2.2.2.1 hp
  refine tcd (fun q2 => tn (by simp only [Bool.true_and, decide_eq_true_eq]; omega) (tcn (tcne (fun hz => bad fun hall => ?_) (fun hz => ris (.inr ?_))))) (fun q2 => ris (.inl (by omega)))
  · have hl0 : 0 < l.length := by omega
    rw [map_getD (d := dLn) _ hl0] at hz
    exact hz ((hall 0 hl0).2.2.2.2.2 rfl)
  · have hl0 : 0 < l.length := by omega
    rw [map_getD (d := dLn) _ hl0] at hz
    exact hz
/-! references -/
def dRl : Rl := (0, (0, (false, ())))
def RelOk (n : Int) (l : List Rl) (j : Nat) : Prop := 0 ≤ (l.getD j dRl).2.1 ∧ (l.getD j dRl).2.1 < 32 ∧ 0 ≤ (l.getD j dRl).1 ∧ (l.getD j dRl).1 < n ∧ (0 < j → (l.getD (j - 1) dRl).1 < (l.getD j dRl).1)
open Classical in
noncomputable def relocsV (n : Int) (l : List Rl) : Int := if ∀ j : Nat, j < l.length → RelOk n l j then 0 else 11
theorem relocsL_ {f : FnT} {l : List Rl} (hl : l.length ≤ 1000) {H1 : Int → (ι → O) → O} {H2 : FnT → List Int → (ι → O) → O} (h1 : (¬ ∀ j : Nat, j < l.length → 0 ≤ (l.getD j dRl).2.1 ∧ (l.getD j dRl).2.1 < 32) → T P (H1 11)) (h2 : (∀ j : Nat, j < l.length → 0 ≤ (l.getD j dRl).2.1 ∧ (l.getD j dRl).2.1 < 32) → T P (H2 f (l.map (fun x => x.1)))) : ∀ {m : Nat} {i : Int} {ns : List Int}, 0 ≤ i → i ≤ (l.length : Int) → (l.length : Int) < i + m → ns = (l.take i.toNat).map (fun x => x.1) → (∀ j : Nat, (j : Int) < i → 0 ≤ (l.getD j dRl).2.1 ∧ (l.getD j dRl).2.1 < 32) → T P (fun K => fun_relocs_L0 m l (l.length : Int) i f ns (fun a => H1 a K) (fun a b => H2 a b K)) := by
  intro m
  induction m with
  | zero => intros; omega
  | succ m ih =>
    intro i ns g0 g1 g2 g3 g4
    rw [fun_relocs_L0]
    unfold fun_relocs_L0.body
    refine tcd (fun q => tna g0 q ?_) (fun q => ?_)
    · obtain ⟨e1, e2, e3⟩ := wi g0 q (by omega)
      have hit : ¬ (0 ≤ (l.getD i.toNat dRl).2.1 ∧ (l.getD i.toNat dRl).2.1 < 32) → T P (H1 11) := fun hb => h1 fun hall => hb (hall i.toNat (by omega))
      have hln : ns.length ≤ 1000 := by rw [g3, List.length_map, List.length_take]; omega
      refine tcn (tcd (fun ha => hit (fun hb => by have := hb.1; unfold dRl at this; omega)) (fun ha => tcd (fun hc => hit (fun hb => by have := hb.2; unfold dRl at this; omega)) (fun hc => ?_)))
      refine tnb (by simp only [List.length_cons, List.length_nil]; omega) ?_
      rw [e1]
      refine ih (by omega) (by omega) (by omega) ?_ (fun j hj => ?_)
      · rw [e2, g3, take_succ_getD (d := dRl) (by omega), List.map_append]
        rfl
      · by_cases hji : (j : Int) < i
        · exact g4 j hji
        · have : j = i.toNat := by omega
          rw [this]
          unfold dRl
          exact ⟨by omega, by omega⟩
    · rw [List.take_of_length_le (by omega)] at g3
      rw [g3]
      exact h2 fun j hj => g4 j (by omega)
theorem relocs_ {f : FnT} (hl : f.2.2.2.2.2.2.2.2.1.length ≤ 1000) {H1 : Int → (ι → O) → O} (h : T P (H1 (relocsV (f.2.2.2.2.2.2.2.1.length : Int) f.2.2.2.2.2.2.2.2.1))) : T P (fun K => fun_relocs f (fun a => H1 a K)) := by
  have hR := rb
  unfold fun_relocs fun_relocs.body
  unfold relocsV at h
  generalize hll : f.2.2.2.2.2.2.2.2.1 = l at *
  have bad : (¬ ∀ j : Nat, j < l.length → RelOk (f.2.2.2.2.2.2.2.1.length : Int) l j) → T P (H1 11) := fun hb => by rw [if_neg hb] at h; exact h
  have good : (∀ j : Nat, j < l.length → RelOk (f.2.2.2.2.2.2.2.1.length : Int) l j) → T P (H1 0) := fun hb => by rw [if_pos hb] at h; exact h
  refine relocsL_ (f := f) (H1 := H1) (H2 := fun t ns K => fun_rising (t.2.2.2.2.2.2.2.1.length : Int) ns (fun b => cond_ (!b) (H1 11 K) (H1 0 K))) hl (fun hb => bad fun hall => hb fun j hj => ⟨(hall j hj).1, (hall j hj).2.1⟩) (fun hb => ?_) (Int.le_refl _) (by omega) (by omega) rfl (fun j hj => by omega)
  have hml : (l.map (fun x : Rl => x.1)).length = l.length := List.length_map ..
  refine rising_ (H1 := fun b K => cond_ (!b) (H1 11 K) (H1 0 K)) (by omega) (fun hall => tcn (tct ?_)) (fun hno => tcn (tcf ?_))
  · refine good fun j hj => ?_
    have h3 := hall j (by omega)
    unfold RiseOk at h3
    rw [map_getD (d := dRl) _ hj] at h3
    refine ⟨(hb j hj).1, (hb j hj).2, h3.1, h3.2.1, fun hp => ?_⟩
    have := h3.2.2 hp
    rwa [map_getD (d := dRl) _ (show j - 1 < l.length by omega)] at this
  · refine bad fun hall => hno fun j hj => ?_
    have hj : j < l.length := by omega
    have h3 := hall j hj
    unfold RiseOk
    rw [map_getD (d := dRl) _ hj]
    refine ⟨h3.2.2.1, h3.2.2.2.1, fun hp => ?_⟩
    rw [map_getD (d := dRl) _ (show j - 1 < l.length by omega)]
    exact h3.2.2.2.2 hp
/-! the document's lines and references -/
theorem rlinesL_ {f : FnT} {l : List Ln} (hf : f.2.2.2.2.2.2.1 = l) {n : Int} (hn : (f.2.2.2.2.2.2.2.1.length : Int) = n) (hl : l.length ≤ 1000) {H1 : Int → (ι → O) → O} {H2 : (ι → O) → O} (h1 : (¬ ∀ j : Nat, j < l.length → LineOk n l j) → T P (H1 9)) (h2 : (∀ j : Nat, j < l.length → LineOk n l j) → T P H2) : ∀ {m : Nat} {i : Int}, 0 ≤ i → i ≤ (l.length : Int) → (l.length : Int) < i + m → (∀ j : Nat, (j : Int) < i → LineOk n l j) → T P (fun K => ref16_lines_L0 m i f (fun a => H1 a K) (H2 K)) := by
  intro m
  induction m with
  | zero => intros; omega
  | succ m ih =>
    intro i g0 g1 g2 g3
    rw [ref16_lines_L0]
    unfold ref16_lines_L0.body
    dsimp only
    rw [hf, hn]
    refine tcd (fun q => tna g0 q ?_) (fun q => ?_)
    · obtain ⟨e1, e2, e3⟩ := wi g0 q (by omega)
      have hit : ¬ LineOk n l i.toNat → T P (H1 9) := fun hb => h1 fun hall => hb (hall i.toNat (by omega))
      have miss : LineOk n l i.toNat → T P (fun K => ref16_lines_L0 m (IntKind.wrap .i64 (i + 1)) f (fun a => H1 a K) (H2 K)) := fun hb => by
        rw [e1]
        refine ih (by omega) (by omega) (by omega) fun j hj => ?_
        by_cases hji : (j : Int) < i
        · exact g3 j hji
        · have : j = i.toNat := by omega
          rw [this]; exact hb
      unfold LineOk dLn at hit miss
      refine tce (fun hi0 => ?_) (fun hi0 => ?_)
      · refine tcn (tcne (fun hz => hit fun hb => hz (hb.2.2.2.2.2 (by omega))) (fun hz => ?_))
        refine tcn (tcd (fun ha => hit fun hb => by omega) (fun ha => tcn (tcd (fun hb => hit fun hc => by omega) (fun hb => ?_))))
        refine tcd (fun hp => absurd hp (by omega)) (fun hp => ?_)
        exact tcn (tcd (fun hc => hit fun hd => by omega) (fun hc => tcd (fun hd => hit fun he => by omega) (fun hd => miss ⟨by omega, by omega, by omega, by omega, fun h => by omega, fun _ => hz⟩)))
      · refine tcn (tcd (fun ha => hit fun hb => by omega) (fun ha => tcn (tcd (fun hb => hit fun hc => by omega) (fun hb => ?_))))
        refine tcd (fun hp => ?_) (fun hp => absurd (show i > 0 by omega) hp)
        have ew : IntKind.wrap .i64 (i - 1) = i - 1 := w64 (by omega) (by omega)
        have ei : (i - 1).toNat = i.toNat - 1 := by omega
        rw [ew, ei]
        refine tna (by omega) (by omega) (tcn (tcd (fun hc => hit fun hd => by have := hd.2.2.2.2.1 (by omega); omega) (fun hc => ?_)))
        exact tcn (tcd (fun hc => hit fun hd => by omega) (fun hc => tcd (fun hd => hit fun he => by omega) (fun hd => miss ⟨by omega, by omega, by omega, by omega, fun h => by omega, fun h => by omega⟩)))
    · exact h2 fun j hj => g3 j (by omega)
theorem rlines_ {f : FnT} (hl : f.2.2.2.2.2.2.1.length ≤ 1000) {H1 : Int → (ι → O) → O} (h : T P (H1 (linesV (f.2.2.2.2.2.2.2.1.length : Int) f.2.2.2.2.2.2.1))) : T P (fun K => ref16_lines f (fun a => H1 a K)) := by
  have hR := rb
  unfold ref16_lines ref16_lines.body
  unfold linesV at h
  refine tcd (fun q => by rw [if_pos q] at h; exact h) (fun q => ?_)
  rw [if_neg q] at h
  exact rlinesL_ (H1 := H1) (H2 := H1 0) rfl rfl hl (fun hb => by rw [if_neg hb] at h; exact h) (fun hb => by rw [if_pos hb] at h; exact h) (Int.le_refl _) (by omega) (by omega) (fun j hj => by omega)
theorem rrelL_ {f : FnT} {l : List Rl} (hf : f.2.2.2.2.2.2.2.2.1 = l) {n : Int} (hn : (f.2.2.2.2.2.2.2.1.length : Int) = n) (hl : l.length ≤ 1000) {H1 : Int → (ι → O) → O} {H2 : (ι → O) → O} (h1 : (¬ ∀ j : Nat, j < l.length → RelOk n l j) → T P (H1 11)) (h2 : (∀ j : Nat, j < l.length → RelOk n l j) → T P H2) : ∀ {m : Nat} {i : Int}, 0 ≤ i → i ≤ (l.length : Int) → (l.length : Int) < i + m → (∀ j : Nat, (j : Int) < i → RelOk n l j) → T P (fun K => ref16_Check_L0 m i f (fun a => H1 a K) (H2 K)) := by
  intro m
  induction m with
  | zero => intros; omega
  | succ m ih =>
    intro i g0 g1 g2 g3
    rw [ref16_Check_L0]
    unfold ref16_Check_L0.body
    dsimp only
    rw [hf, hn]
    refine tcd (fun q => tna g0 q ?_) (fun q => ?_)
    · obtain ⟨e1, e2, e3⟩ := wi g0 q (by omega)
      have hit : ¬ RelOk n l i.toNat → T P (H1 11) := fun hb => h1 fun hall => hb (hall i.toNat (by omega))
      have miss : RelOk n l i.toNat → T P (fun K => ref16_Check_L0 m (IntKind.wrap .i64 (i + 1)) f (fun a => H1 a K) (H2 K)) := fun hb => by
        rw [e1]
        refine ih (by omega) (by omega) (by omega) fun j hj => ?_
        by_cases hji : (j : Int) < i
        · exact g3 j hji
        · have : j = i.toNat := by omega
          rw [this]; exact hb
      unfold RelOk dRl at hit miss
      refine tcn (tcd (fun ha => hit fun hb => by omega) (fun ha => tcn (tcd (fun hb => hit fun hc => by omega) (fun hb => ?_))))
      refine tcd (fun hp => ?_) (fun hp => ?_)
      · have ew : IntKind.wrap .i64 (i - 1) = i - 1 := w64 (by omega) (by omega)
        have ei : (i - 1).toNat = i.toNat - 1 := by omega
        rw [ew, ei]
        refine tna (by omega) (by omega) (tcn (tcd (fun hc => hit fun hd => by have := hd.2.2.2.2 (by omega); omega) (fun hc => tna g0 q ?_)))
        exact tcn (tcd (fun hc => hit fun hd => by omega) (fun hc => tna g0 q (tcd (fun hd => hit fun he => by omega) (fun hd => miss ⟨by omega, by omega, by omega, by omega, fun h => by omega⟩))))
      · exact tna g0 q (tcn (tcd (fun hc => hit fun hd => by omega) (fun hc => tna g0 q (tcd (fun hd => hit fun he => by omega) (fun hd => miss ⟨by omega, by omega, by omega, by omega, fun h => by omega⟩)))))
    · exact h2 fun j hj => g3 j (by omega)
/-! all of it -/
noncomputable def funV (f : FnT) : Int := if slotsV f ≠ 0 then slotsV f else if f.2.2.1 < 0 then 9 else if f.2.2.1 > 4096 then 9 else if codeV f.2.2.2.2.2.2.2.1 ≠ 0 then codeV f.2.2.2.2.2.2.2.1 else
  if f.2.2.2.2.1 < 0 then 9 else if f.2.2.2.2.2.1 < f.2.2.2.2.1 then 9 else if f.2.2.2.2.2.1 > (f.2.2.2.2.2.2.2.1.length : Int) then 9 else
  if linesV (f.2.2.2.2.2.2.2.1.length : Int) f.2.2.2.2.2.2.1 ≠ 0 then linesV (f.2.2.2.2.2.2.2.1.length : Int) f.2.2.2.2.2.2.1 else relocsV (f.2.2.2.2.2.2.2.1.length : Int) f.2.2.2.2.2.2.2.2.1
structure FewOk (f : FnT) : Prop where
  a : f.2.1.length ≤ 100
  b : f.2.2.2.2.2.2.1.length ≤ 100
  c : f.2.2.2.2.2.2.2.1.length ≤ 100
  d : f.2.2.2.2.2.2.2.2.1.length ≤ 100
theorem funCheck_ {f : FnT} (hw : FewOk f) {H1 : Int → (ι → O) → O} (h : T P (H1 (funV f))) : T P (fun K => fun_Check f (fun a => H1 a K)) := by
  obtain ⟨ha, hb, hc, hd⟩ := hw
  unfold fun_Check fun_Check.body
  unfold funV at h
  refine slots_ (by omega) (tcne (fun q => by rw [if_pos q] at h; exact h) (fun q => ?_))
  rw [if_neg (fun e => e q)] at h
  refine tcn (tcd (fun q => by rw [if_pos q] at h; exact h) (fun q => ?_))
  rw [if_neg q] at h
  refine tcd (fun q => by rw [if_pos q] at h; exact h) (fun q => ?_)
  rw [if_neg q] at h
  refine code_ hc (tcne (fun q => by rw [if_pos q] at h; exact h) (fun q => ?_))
  rw [if_neg (fun e => e q)] at h
  refine tcn (tcd (fun q => by rw [if_pos q] at h; exact h) (fun q => ?_))
  rw [if_neg q] at h
  refine tcn (tcd (fun q => by rw [if_pos q] at h; exact h) (fun q => ?_))
  rw [if_neg q] at h
  refine tcd (fun q => by rw [if_pos q] at h; exact h) (fun q => ?_)
  rw [if_neg q] at h
  refine lines_ (by omega) (tcne (fun q => by rw [if_pos q] at h; exact h) (fun q => ?_))
  rw [if_neg (fun e => e q)] at h
  exact relocs_ (H1 := H1) (by omega) h
theorem rfunCheck_ {f : FnT} (hw : FewOk f) (hk : ∀ x ∈ f.2.1, in64 x) {H1 : Int → (ι → O) → O} (h : T P (H1 (funV f))) : T P (fun K => ref16_Check f (fun a => H1 a K)) := by
  have hR := rb
  obtain ⟨ha, hb, hc, hd⟩ := hw
  unfold ref16_Check ref16_Check.body
  unfold funV at h
  refine rslots_ (by omega) hk (tcne (fun q => by rw [if_pos q] at h; exact h) (fun q => ?_))
  rw [if_neg (fun e => e q)] at h
  refine tcn (tcd (fun q => by rw [if_pos q] at h; exact h) (fun q => ?_))
  rw [if_neg q] at h
  refine tcd (fun q => by rw [if_pos q] at h; exact h) (fun q => ?_)
  rw [if_neg q] at h
  refine rcode_ hc (tcne (fun q => by rw [if_pos q] at h; exact h) (fun q => ?_))
  rw [if_neg (fun e => e q)] at h
  refine tcn (tcd (fun q => by rw [if_pos q] at h; exact h) (fun q => ?_))
  rw [if_neg q] at h
  refine tcn (tcd (fun q => by rw [if_pos q] at h; exact h) (fun q => ?_))
  rw [if_neg q] at h
  refine tcd (fun q => by rw [if_pos q] at h; exact h) (fun q => ?_)
  rw [if_neg q] at h
  refine rlines_ (by omega) (tcne (fun q => by rw [if_pos q] at h; exact h) (fun q => ?_))
  rw [if_neg (fun e => e q)] at h
  unfold relocsV at h
  exact rrelL_ (H1 := H1) (H2 := H1 0) rfl rfl (by omega) (fun hb => by rw [if_neg hb] at h; exact h) (fun hb => by rw [if_pos hb] at h; exact h) (Int.le_refl _) (by omega) (by omega) (fun j hj => by omega)
theorem few_ {f : FnT} {H1 : Bool → (ι → O) → O} (h1 : FewOk f → T P (H1 true)) (h2 : T P (H1 false)) : T P (fun K => ref16_Few f (fun a => H1 a K)) := by
  unfold ref16_Few ref16_Few.body
  refine tcd (fun qa => tcd (fun qb => tcd (fun qc => ?_) (fun _ => h2)) (fun _ => h2)) (fun _ => h2)
  by_cases qd : (f.2.2.2.2.2.2.2.2.1.length : Int) ≤ 100
  · rw [dt qd]; exact h1 ⟨by omega, by omega, by omega, by omega⟩
  · rw [df qd]; exact h2
/-! frames and lines -/
theorem num_Near_ (a b c : Int) (K : Int → O) : num_Near a b c K = K (if a < b then b else if a > c then c else a) := by
  unfold num_Near num_Near.body
  by_cases h : a < b
  · rw [dt h, cond_t, if_pos h]
  · rw [df h, cond_f, if_neg h]
    by_cases h2 : a > c
    · rw [dt h2, cond_t, if_pos h2]
    · rw [df h2, cond_f, if_neg h2]
theorem ref01_Near_ (a b c : Int) (K : Int → O) : ref01_Near a b c K = K (if a < b then b else if a > c then c else a) := by
  unfold ref01_Near ref01_Near.body
  by_cases h : a < b
  · rw [dt h, cond_t, if_pos h]
  · rw [df h, cond_f, if_neg h]
    by_cases h2 : a > c
    · rw [dt h2, cond_t, if_pos h2]
    · rw [df h2, cond_f, if_neg h2]
def frameF (f : FnT) : Int := IntKind.wrap .i64 ((f.2.1.length : Int) + if f.2.2.1 < 0 then 0 else if f.2.2.1 > 1048576 then 1048576 else f.2.2.1)
theorem fun_Frame_ (f : FnT) (K : Int → O) : fun_Frame f K = K (frameF f) := by
  unfold fun_Frame fun_Frame.body frameF
  rw [num_Near_]
theorem ref16_Frame_ (f : FnT) (K : Int → O) : ref16_Frame f K = K (frameF f) := by
  unfold ref16_Frame ref16_Frame.body frameF
  rw [ref01_Near_]
def lineR (i : Int) : List Ln → Int → Int
  | [], n => n
  | x :: r, n => if x.1 > i then n else lineR i r x.2.1
theorem line_ {f : FnT} (hl : f.2.2.2.2.2.2.1.length ≤ 1000) {i : Int} {H1 : Int → (ι → O) → O} (h : T P (H1 (lineR i f.2.2.2.2.2.2.1 0))) : T P (fun K => fun_Line f i (fun a => H1 a K)) := by
  have hR := rb
  unfold fun_Line fun_Line.body
  generalize f.2.2.2.2.2.2.1 = l at *
  have loop : ∀ {m : Nat} {k n : Int}, 0 ≤ k → k ≤ (l.length : Int) → (l.length : Int) < k + m → lineR i (l.drop k.toNat) n = lineR i l 0 → T P (fun K => fun_Line_L0 m i n l (l.length : Int) k (fun a => H1 a K)) := by
    intro m
    induction m with
    | zero => intros; omega
    | succ m ih =>
      intro k n g0 g1 g2 g3
      rw [fun_Line_L0]
      unfold fun_Line_L0.body
      refine tcd (fun q => tna g0 q ?_) (fun q => ?_)
      · obtain ⟨e1, e2, e3⟩ := wi g0 q (by omega)
        rw [drop_c (d := (0, (0, ()))) g0 q, lineR] at g3
        refine tcd (fun c => ?_) (fun c => ?_)
        · rw [if_pos c] at g3
          rw [g3]; exact h
        · rw [if_neg c] at g3
          rw [e1]
          exact ih (by omega) (by omega) (by omega) (by rw [e2]; exact g3)
      · rw [List.drop_eq_nil_of_le (by omega), lineR] at g3
        rw [g3]; exact h
  exact loop (Int.le_refl _) (by omega) (by omega) rfl
theorem rline_ {f : FnT} (hl : f.2.2.2.2.2.2.1.length ≤ 1000) {i : Int} {H1 : Int → (ι → O) → O} (h : T P (H1 (lineR i f.2.2.2.2.2.2.1 0))) : T P (fun K => ref16_Line f i (fun a => H1 a K)) := by
  have hR := rb
  unfold ref16_Line ref16_Line.body
  have loop : ∀ {m : Nat} {k n : Int}, 0 ≤ k → k ≤ (f.2.2.2.2.2.2.1.length : Int) → (f.2.2.2.2.2.2.1.length : Int) < k + m → lineR i (f.2.2.2.2.2.2.1.drop k.toNat) n = lineR i f.2.2.2.2.2.2.1 0 → T P (fun K => ref16_Line_L0 m i n k f (fun a => H1 a K)) := by
    intro m
    induction m with
    | zero => intros; omega
    | succ m ih =>
      intro k n g0 g1 g2 g3
      rw [ref16_Line_L0]
      unfold ref16_Line_L0.body
      refine tcd (fun q => tna g0 q ?_) (fun q => ?_)
      · obtain ⟨e1, e2, e3⟩ := wi g0 q (by omega)
        rw [drop_c (d := (0, (0, ()))) g0 q, lineR] at g3
        refine tcd (fun c => ?_) (fun c => ?_)
        · rw [if_neg (by omega)] at g3
          refine tna g0 q ?_
          rw [e1]
          exact ih (by omega) (by omega) (by omega) (by rw [e2]; exact g3)
        · rw [if_pos (by omega)] at g3
          rw [g3]; exact h
      · rw [List.drop_eq_nil_of_le (by omega), lineR] at g3
        rw [g3]; exact h
  exact loop (Int.le_refl _) (by omega) (by omega) rfl
theorem FunChecks_ {f : FnT} (hk : ∀ x ∈ f.2.1, in64 x) {i : Int} {H1 : Bool → (ι → O) → O} (h : T P (H1 true)) : T P (fun K => law16_FunChecks f i (fun a => H1 a K)) := by
  have known : T P (fun K => law16_known (fun a => H1 a K)) := h
  unfold law16_FunChecks law16_FunChecks.body
  refine few_ (fun hw => tcn (tct ?_)) (tcn (tcf known))
  have hb := hw.b
  refine funCheck_ hw (rfunCheck_ hw hk (tce (fun _ => ?_) (fun h => absurd rfl h)))
  refine teq (fun K => fun_Frame_ _ _) (teq (fun K => ref16_Frame_ _ _) (tce (fun _ => ?_) (fun h => absurd rfl h)))
  exact line_ (by omega) (rline_ (by omega) (tce (fun _ => known) (fun h => absurd rfl h)))
theorem holds (f : FnT) (i : Int) (h0 : okD Ty7 f) (h1 : okD (.int .i64) i) : law16_FunChecks f i (fun y => some y) = some true :=
  (FunChecks_ (ι := Bool) (P := fun b => b = true) (H1 := fun a K => K a) (fun x hx => ok64 ((okD_sl.1 (okDs_cons.1 (okDs_cons.1 (okD_st.1 h0)).2).1).2 x hx)) (T.leaf rfl)).use (K := fun y => some y) (fun i hi => congrArg some hi)

end Go.Proofs.YteanpakahlkhdaaGreat.funChecks
