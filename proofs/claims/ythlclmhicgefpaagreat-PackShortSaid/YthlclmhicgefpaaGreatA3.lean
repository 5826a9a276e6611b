/- The executor on abstract states and what is proved of it, part 3; conditions stand in the theorems. -/
import Derived.Test.YthlclmhicgefpaaGreatA2
import Derived.ChangeArms
import Derived.Deep.Slices
import Derived.WideShapes
import Derived.OpenShut
import Derived.ShutString
import Derived.RowKit
import Derived.Carry
import Derived.ChangeAt
import Derived.ChangeOld
import Derived.SizedLaws
import Derived.ProofKit
namespace Go
set_option linter.unusedVariables false
set_option linter.unusedSimpArgs false
set_option autoImplicit false
namespace AX
theorem memId_iff {i : Id} : ∀ {l : List Id}, memId i l = true ↔ i ∈ l
 | [] => by simp [memId]
 | j :: r => by
  rw [memId]
  split
  ·rename_i hj _; simp [hj]
  ·rename_i hj _
   rw [memId_iff, List.mem_cons]
   exact ⟨.inr, fun h => h.resolve_left (fun e => hj e.symm)⟩
theorem reachH_ok {h : Heap} : ∀ {n : Nat} {l seen : List Id}, seen.Nodup → (∀ i ∈ seen, ∃ o, hget h i = some o) → (reachH h n l seen).Nodup ∧ ∀ i ∈ reachH h n l seen, ∃ o, hget h i = some o
 | 0, l, seen, h1, h2 => by unfold reachH; exact ⟨h1, h2⟩
 | n + 1, [], seen, h1, h2 => by unfold reachH; exact ⟨h1, h2⟩
 | n + 1, i :: r, seen, h1, h2 => by
  rw [reachH]
  split
  ·exact reachH_ok h1 h2
  ·rename_i hm
   split
   ·rename_i o ho
    refine reachH_ok ?_ ?_
    ·rw [List.nodup_append]
     refine ⟨h1, by simp, fun a ha b hb => ?_⟩
     rw [List.mem_singleton] at hb
     subst hb
     rintro rfl
     rw [memId_iff.2 ha] at hm
     cases hm
    ·intro j hj
     rcases List.mem_append.1 hj with hj | hj
     ·exact h2 j hj
     ·rw [List.mem_singleton.1 hj]; exact ⟨o, ho⟩
   ·exact reachH_ok h1 h2
theorem nth_none {i : Id} : ∀ {k : Nat} {l : List Id}, nth i k l = none → i ∉ l
 | k, [], _ => by simp
 | k, j :: r, h => by
  rw [nth] at h
  split at h
  ·cases h
  ·rename_i hj _
   rw [List.mem_cons]
   rintro (e | e)
   ·exact hj e.symm
   ·exact nth_none h e
section
variable {C : Ctx} {w : World} {h hc : Heap} {ids : List Id} {T : List AV}
theorem obj_lt (hs : HSim C (hget h) w) {i : Id} {o : Obj} {l : Loc} {b : Nat} (h1 : hget h i = some o) (h2 : C.m i = some l) (h3 : l.b = some b) : b < w.heap.size := by
 obtain ⟨l3, h4, h5⟩ := hs.obj i o h1
 obtain rfl : l3 = l := Option.some.inj (h4.symm.trans h2)
 rcases h5.at_ with ⟨h6, _⟩ | ⟨b', c', h6, h7, _⟩
 ·rw [h6] at h3; cases h3
 ·rw [h6] at h3; cases h3; exact (Array.getElem?_eq_some_iff.1 h7).1
theorem nodup_idx {α : Type} {l : List α} (h : l.Nodup) {i j : Nat} {x : α} (hi : l[i]? = some x) (hj : l[j]? = some x) : i = j := by
 rw [List.nodup_iff_pairwise_ne, List.pairwise_iff_getElem] at h
 obtain ⟨a, ha⟩ := List.getElem?_eq_some_iff.1 hi
 obtain ⟨b, hb⟩ := List.getElem?_eq_some_iff.1 hj
 rcases Nat.lt_trichotomy i j with hlt | heq | hgt
 ·exact absurd (ha.trans hb.symm) (h i j a b hlt)
 ·exact heq
 ·exact absurd (hb.trans ha.symm) (h j i b a hgt)
theorem into_tau (hT : ∀ x ∈ T, goodTag h ids x) {n b : Nat} (hb : (C.into ids T).τ n = some b) : (∃ i o l, i ∉ ids ∧ T[n]? = some (.ref i) ∧ hget h i = some o ∧ C.m i = some l ∧ l.b = some b) ∨ ∃ t, C.τ t = some b := by
 unfold Ctx.into at hb
 simp only at hb
 split at hb
 ·rename_i x hx
  have hg := hT x (List.mem_of_getElem? hx)
  cases x with
  | ref i =>
   simp only [goodTag] at hg
   obtain ⟨o, ho⟩ := hg.2
   simp only [tagB] at hb
   split at hb
   ·rename_i l hl; exact .inl ⟨i, o, l, nth_none hg.1, hx, ho, hl, hb⟩
   ·cases hb
  | bv t e ty xs =>
   cases t with
   | zero => simp [goodTag] at hg
   | succ t => simp only [tagB] at hb; exact .inr ⟨t, hb⟩
  | _ => simp [goodTag] at hg
 ·exact .inr ⟨_, hb⟩
structure Handed (C : Ctx) (w : World) (h : Heap) (ids : List Id) (T : List AV) (hc : Heap) : Prop where
 nodup : ids.Nodup
 there : ∀ i ∈ ids, ∃ o, hget h i = some o
 tags : ∀ x ∈ T, goodTag h ids x
 objs : ∀ id o, hget hc id = some o → ∃ k i o0, id = [0, k] ∧ ids[k]? = some i ∧ hget h i = some o0 ∧ ∀ loc, ObjAt C w o0 loc → ObjAt (C.into ids T) w o loc
theorem HSim.into (hs : HSim C (hget h) w) (hh : Handed C w h ids T hc) : HSim (C.into ids T) (hget hc) w := by
 have get : ∀ {k : Nat} {i : Id}, ids[k]? = some i → (C.into ids T).m [0, k] = C.m i := fun hk => by simp [Ctx.into, hk]
 refine ⟨fun id o ho => ?_, fun id id' o o' l l' b h1 h2 h3 h4 h5 h6 => ?_, fun id o l b h1 h2 h3 h4 => ?_, fun b hb => ?_⟩
 ·obtain ⟨k, i, o0, rfl, h2, h3, h4⟩ := hh.objs id o ho
  obtain ⟨l, h5, h6⟩ := hs.obj i o0 h3
  exact ⟨l, (get h2).trans h5, h4 l h6⟩
 ·obtain ⟨k, i, o0, rfl, a2, a3, _⟩ := hh.objs id o h1
  obtain ⟨k', i', o0', rfl, b2, b3, _⟩ := hh.objs id' o' h2
  rw [get a2] at h3
  rw [get b2] at h4
  obtain rfl := hs.inj i i' o0 o0' l l' b a3 b3 h3 h4 h5 h6
  have : k = k' := nodup_idx hh.nodup a2 b2
  rw [this]
 ·obtain ⟨k, i, o0, rfl, a2, a3, _⟩ := hh.objs id o h1
  rw [get a2] at h2
  rcases h4 with h4 | ⟨t, h4⟩
  ·exact hs.sep i o0 l b a3 h2 h3 (.inl h4)
  ·rcases into_tau hh.tags h4 with ⟨i', o', l', b1, _, b2, b3, b4⟩ | h4
   ·obtain rfl := hs.inj i i' o0 o' l l' b a3 b2 h2 b3 h3 b4
    exact b1 (List.mem_of_getElem? a2)
   ·exact hs.sep i o0 l b a3 h2 h3 (.inr h4)
 ·rcases hb with hb | ⟨t, hb⟩
  ·exact hs.live b (.inl hb)
  ·rcases into_tau hh.tags hb with ⟨i', o', l', _, _, b2, b3, b4⟩ | h4
   ·exact obj_lt hs b2 b3 b4
   ·exact hs.live b (.inr h4)
theorem into_base : ∀ id l, (C.into ids T).m id = some l → isParam id = true := by
 intro id l hl
 unfold Ctx.into at hl
 simp only at hl
 split at hl
 ·rfl
 ·cases hl
theorem own_into (hh : Handed C w h ids T hc) {b : Nat} (hb : own (C.into ids T) (hget hc) b) : ∃ i o l, i ∈ ids ∧ hget h i = some o ∧ C.m i = some l ∧ l.b = some b := by
 obtain ⟨id, o, l, h1, h2, h3⟩ := hb
 obtain ⟨k, i, o0, rfl, a2, a3, _⟩ := hh.objs id o h1
 have : (C.into ids T).m [0, k] = C.m i := by simp [Ctx.into, a2]
 rw [this] at h2
 exact ⟨i, o0, l, List.mem_of_getElem? a2, a3, h2, h3⟩
end
end AX
namespace AX
def Ctx.back (C C' : Ctx) (me : Id) (G : List Id) : Ctx where
 m := fun id => match C.m id with
  | some l => some l
  | none => match decEq (id.take me.length) me with
   | isTrue _ => C'.m (id.drop me.length)
   | isFalse _ => none
 τ := C.τ
 ok := fun b => C'.ok b ∨ ∃ i ∈ G, ∃ l, C.m i = some l ∧ l.b = some b
 gh := C.gh
theorem back_old {C C' : Ctx} {me : Id} {G : List Id} {id : Id} {l : Loc} (h : C.m id = some l) : (C.back C' me G).m id = some l := by simp [Ctx.back, h]
theorem back_new {C C' : Ctx} {me : Id} {G : List Id} {i : Id} (h : C.m (me ++ i) = none) : (C.back C' me G).m (me ++ i) = C'.m i := by
 unfold Ctx.back
 simp only [h]
 split
 ·simp
 ·rename_i hne _; exact absurd (by simp) hne
section
variable {C C' : Ctx} {w : World} {me : Id} {ids : List Id} {T : List AV} {G : List Id} {C'' : Ctx}
structure Backs (C C' : Ctx) (me : Id) (ids : List Id) (T : List AV) (C'' : Ctx) : Prop where
 m : ∀ i j l, outI me ids i = some j → C'.m i = some l → C''.m j = some l
 τ : C''.τ = C.τ
 τ' : C'.τ = (C.into ids T).τ
 ok : ∀ b, C'.ok b → C''.ok b
 gh : C''.gh.y = C'.gh.y
def Gave (T : List AV) (C : Ctx) (C'' : Ctx) (ts : List Nat) : Prop := ∀ t i, t + 1 ∈ ts → T[t]? = some (.ref i) → ∀ l b, C.m i = some l → l.b = some b → C''.ok b
theorem Gave.sub {ts ts' : List Nat} (h : Gave T C C'' ts) (hs : ∀ t ∈ ts', t ∈ ts) : Gave T C C'' ts' := fun t i h1 => h t i (hs _ h1)
mutual
theorem outA_rep (hb : Backs C C' me ids T C'') : ∀ (x : AV) (v : Value), Gave T C C'' (tagsA x) → RepA C' w x v → RepA C'' w (outA me ids T x) v
 | .ref i, v, hg, hv => by
  rw [outA]
  split
  ·rename_i j hj
   rw [RepA] at hv ⊢
   obtain ⟨l, h1, h2⟩ := hv
   exact ⟨l, hb.m i j l hj h1, h2⟩
  ·exact RepA_top
 | .cut i a b, v, hg, hv => by
  rw [outA]
  split
  ·rename_i j hj
   rw [RepA] at hv ⊢
   obtain ⟨l, h1, h2⟩ := hv
   exact ⟨l, hb.m i j l hj h1, h2⟩
  ·exact RepA_top
 | .ptr i a b, v, hg, hv => by
  rw [outA]
  split
  ·rename_i j hj
   rw [RepA] at hv ⊢
   obtain ⟨l, b', h1, h2⟩ := hv
   exact ⟨l, b', hb.m i j l hj h1, h2⟩
  ·exact RepA_top
 | .agg xs, v, hg, hv => by
  rw [outA]
  rw [RepA] at hv ⊢
  obtain ⟨cs, h1, h2, h3⟩ := hv
  exact ⟨cs, h1, outL_rep hb xs _ (by rw [tagsA] at hg; exact hg) h2, h3⟩
 | .tup xs, v, hg, hv => by
  rw [outA]
  rw [RepA] at hv ⊢
  obtain ⟨cs, h1, h2⟩ := hv
  exact ⟨cs, h1, outL_rep hb xs _ (by rw [tagsA] at hg; exact hg) h2⟩
 | .fn f a b, v, hg, hv => by
  rw [outA]
  rw [RepA] at hv ⊢
  rw [tagsA] at hg
  obtain ⟨x, y, h1, h2, h3⟩ := hv
  exact ⟨x, y, by rw [hb.gh]; exact h1, outL_rep hb a _ (hg.sub fun t ht => List.mem_append.2 (.inl ht)) h2, outL_rep hb b _ (hg.sub fun t ht => List.mem_append.2 (.inr ht)) h3⟩
 | .bv 0 e ty xs, v, hg, hv => by
  simp only [outA]
  exact RepA_bv.2 (RowT_mono (RepA_bv.1 hv) (fun b h => hb.ok b h) (fun b h => hb.ok b h) (fun _ _ => rfl) (fun _ _ => rfl))
 | .bv (t + 1) e ty xs, v, hg, hv => by
  simp only [outA]
  have hr := RepA_bv.1 hv
  have key : ∀ b, okTag C' (t + 1) b → ∀ y, T[t]? = some y → tagB C y = some b := by
   intro b hb' y hy
   have h1 : C'.τ t = some b := hb'
   rw [hb.τ'] at h1
   unfold Ctx.into at h1
   simp only [hy] at h1
   exact h1
  split
  ·rename_i u e2 ty2 xs2 hu
   refine RepA_bv.2 (RowT_mono hr (fun b h => ?_) (fun b h => hb.ok b h) (fun _ _ => rfl) (fun _ _ => rfl))
   have h1 := key b h _ hu
   cases u with
   | zero => simp [tagB] at h1
   | succ u =>
    simp only [tagB] at h1
    show C''.τ u = some b
    rw [hb.τ]; exact h1
  ·rename_i i hu
   refine RepA_bv.2 (RowT_mono hr (fun b h => ?_) (fun b h => hb.ok b h) (fun _ _ => rfl) (fun _ _ => rfl))
   have h1 := key b h _ hu
   simp only [tagB] at h1
   split at h1
   ·rename_i l hl
    exact hg t i (by rw [tagsA]; exact List.mem_singleton.2 rfl) hu l b hl h1
   ·cases h1
  ·exact RepA_top
 | .d x, v, hg, hv => by
  simp only [outA]
  obtain ⟨cs, h1, h2⟩ := RepA_d.1 hv
  exact RepA_d.2 ⟨cs, RepT_mono hb.ok (fun _ _ => rfl) _ _ _ h1, h2⟩
 | .vptr x off, v, hg, hv => by simp only [outA]; exact RepA_top
 | .nils, v, hg, hv => by simp only [outA]; exact RepA_nils.2 (RepA_nils.1 hv)
 | .nilp, v, hg, hv => by simp only [outA]; exact RepA_nilp.2 (RepA_nilp.1 hv)
 | .nilf, v, hg, hv => by simp only [outA]; exact RepA_nilf.2 (RepA_nilf.1 hv)
 | .undef, v, hg, hv => by simp only [outA]; exact RepA_undef.2 (RepA_undef.1 hv)
 | .nt a b, v, hg, hv => by simp only [outA]; exact RepA_nt.2 (RepA_nt.1 hv)
 | .top, v, hg, hv => by simp only [outA]; exact RepA_top
theorem outL_rep (hb : Backs C C' me ids T C'') : ∀ (xs : List AV) (cs : List Value), Gave T C C'' (tagsL xs) → RepL C' w xs cs → RepL C'' w (outL me ids T xs) cs
 | [], cs, hg, hv => by rw [outL]; exact RepL_nil.2 (RepL_nil.1 hv)
 | x :: r, cs, hg, hv => by
  rw [outL]
  rw [tagsL] at hg
  obtain ⟨u, q, rfl, h1, h2⟩ := RepL_cons.1 hv
  exact RepL_cons.2 ⟨u, q, rfl, outA_rep hb x u (hg.sub fun t ht => List.mem_append.2 (.inl ht)) h1, outL_rep hb r q (hg.sub fun t ht => List.mem_append.2 (.inr ht)) h2⟩
end
end
end AX
namespace AX
theorem hget_hsets (h : Heap) : ∀ (l : Heap) (j : Id), hget (hsets h l) j = match hget l j with | some o => some o | none => hget h j
 | [], j => rfl
 | (i, o) :: r, j => by
  rw [hsets, hget_hset, hget]
  by_cases hj : j = i
  ·subst hj
   rw [if_pos rfl]
   split
   ·rename_i h1; split at h1
    ·exact h1
    ·rename_i hne _; exact absurd rfl hne
   ·rename_i h1; split at h1
    ·cases h1
    ·rename_i hne _; exact absurd rfl hne
  ·rw [if_neg hj, hget_hsets h r j]
   cases hd : decEq i j with
   | isTrue he => exact absurd he.symm hj
   | isFalse he => rfl
theorem outL_map (me : Id) (ids : List Id) (T : List AV) : ∀ (xs : List AV), outL me ids T xs = xs.map (outA me ids T)
 | [] => by rw [outL]; rfl
 | x :: r => by rw [outL, List.map_cons, outL_map me ids T r]
theorem outA_d (me : Id) (ids : List Id) (T : List AV) (x : DV) : outA me ids T (.d x) = .d x := by simp only [outA]
theorem outA_cells (me : Id) (ids : List Id) (T : List AV) (x : AV) : cellsA (outA me ids T x) = (cellsA x).map (outA me ids T) := by
 cases x with
 | d y =>
  rw [outA_d]
  show (cellsD y).map AV.d = ((cellsD y).map AV.d).map _
  rw [List.map_map]
  exact List.map_congr_left fun z _ => (outA_d me ids T z).symm
 | agg xs => rw [outA]; exact outL_map me ids T xs
 | ref i => cases h : outI me ids i <;> simp [cellsA, outA, h]
 | cut i a b => cases h : outI me ids i <;> simp [cellsA, outA, h]
 | ptr i a b => cases h : outI me ids i <;> simp [cellsA, outA, h]
 | bv t e ty xs =>
  cases t with
  | zero => simp [cellsA, outA]
  | succ t =>
   have h1 : ∀ y, y = outA me ids T (.bv (t + 1) e ty xs) → cellsA y = [y] := by
    intro y hy
    simp only [outA] at hy
    split at hy <;> (subst hy; rfl)
   rw [h1 _ rfl]
   rfl
 | tup xs => simp [cellsA, outA]
 | fn f a b => simp [cellsA, outA]
 | nils => simp [cellsA, outA]
 | nilp => simp [cellsA, outA]
 | nilf => simp [cellsA, outA]
 | undef => simp [cellsA, outA]
 | vptr x o => simp [cellsA, outA]
 | nt a b => simp [cellsA, outA]
 | top => simp [cellsA, outA]
theorem tagsL_mem : ∀ {xs : List AV} {x : AV} {t : Nat}, x ∈ xs → t ∈ tagsA x → t ∈ tagsL xs
 | [], x, t, h, _ => by cases h
 | y :: r, x, t, h, ht => by
  rw [tagsL]
  rcases List.mem_cons.1 h with rfl | h
  ·exact List.mem_append.2 (.inl ht)
  ·exact List.mem_append.2 (.inr (tagsL_mem h ht))
theorem tags_cells {x : AV} {t : Nat} (h : t ∈ tagsL (cellsA x)) : t ∈ tagsA x := by
 cases x with
 | agg xs => rw [tagsA]; exact h
 | d y =>
  exfalso
  have : ∀ (l : List DV), tagsL (l.map AV.d) = [] := by
   intro l
   induction l with
   | nil => rfl
   | cons z r ih => rw [List.map_cons, tagsL, ih]; rfl
  rw [show cellsA (.d y) = (cellsD y).map AV.d from rfl, this] at h
  cases h
 | _ => simpa [cellsA, tagsL] using h
theorem tagsH_mem : ∀ {h : Heap} {i : Id} {e : TypeId} {g : Nat} {xs : List AV} {t : Nat}, hget h i = some ⟨e, g, .mix xs⟩ → t ∈ tagsL xs → t ∈ tagsH h
 | [], i, e, g, xs, t, h, _ => by cases h
 | (j, o) :: r, i, e, g, xs, t, h, ht => by
  rw [hget] at h
  rw [tagsH]
  split at h
  ·cases h
   exact List.mem_append.2 (.inl ht)
  ·exact List.mem_append.2 (.inr (tagsH_mem h ht))
theorem gone_mem {T : List AV} : ∀ {ts : List Nat} {t : Nat} {i : Id}, t + 1 ∈ ts → T[t]? = some (.ref i) → i ∈ gone T ts
 | [], t, i, h, _ => by cases h
 | 0 :: r, t, i, h, ht => by
  rw [gone]
  rcases List.mem_cons.1 h with h | h
  ·cases h
  ·exact gone_mem h ht
 | (k + 1) :: r, t, i, h, ht => by
  rw [gone]
  rcases List.mem_cons.1 h with h | h
  ·cases h
   rw [ht]
   exact List.mem_append.2 (.inl (List.mem_singleton.2 rfl))
  ·exact List.mem_append.2 (.inr (gone_mem h ht))
theorem gone_inv {T : List AV} : ∀ {ts : List Nat} {i : Id}, i ∈ gone T ts → .ref i ∈ T
 | [], i, h => by cases h
 | 0 :: r, i, h => by rw [gone] at h; exact gone_inv h
 | (k + 1) :: r, i, h => by
  rw [gone] at h
  rcases List.mem_append.1 h with h | h
  ·split at h
   ·rename_i j hj
    rw [List.mem_singleton.1 h]
    exact List.mem_of_getElem? hj
   ·cases h
  ·exact gone_inv h
theorem hget_outH {me : Id} {ids : List Id} {T : List AV} (hinj : ∀ i i' j, outI me ids i = some j → outI me ids i' = some j → i = i') : ∀ {h : Heap} {j : Id} {o : Obj}, hget (outH me ids T h) j = some o → ∃ i o', outI me ids i = some j ∧ hget h i = some o' ∧ o = outO me ids T o'
 | [], j, o, h => by cases h
 | (i, p) :: r, j, o, h => by
  rw [outH] at h
  split at h
  ·rename_i j' hj'
   rw [hget] at h
   split at h
   ·rename_i he _
    subst he
    cases h
    refine ⟨i, p, hj', ?_, rfl⟩
    rw [hget]
    split
    ·rfl
    ·rename_i hne _; exact absurd rfl hne
   ·rename_i hne _
    obtain ⟨i2, o', h1, h2, h3⟩ := hget_outH hinj h
    refine ⟨i2, o', h1, ?_, h3⟩
    rw [hget]
    split
    ·rename_i he _; subst he; rw [hj'] at h1; exact absurd (Option.some.inj h1) hne
    ·exact h2
  ·rename_i hj'
   obtain ⟨i2, o', h1, h2, h3⟩ := hget_outH hinj h
   refine ⟨i2, o', h1, ?_, h3⟩
   rw [hget]
   split
   ·rename_i he _; subst he; rw [hj'] at h1; cases h1
   ·exact h2
section
variable {C C' C'' : Ctx} {w : World} {me : Id} {ids : List Id} {T : List AV}
theorem outO_at (hb : Backs C C' me ids T C'') {o : Obj} {l : Loc} (hg : ∀ xs, o.el = .mix xs → Gave T C C'' (tagsL xs)) (h : ObjAt C' w o l) : ObjAt C'' w (outO me ids T o) l := by
 obtain ⟨e, g, el⟩ := o
 cases el with
 | data ty xs =>
  refine ⟨h.e, h.g, h.n, h.pos, h.at_.imp id ?_⟩
  rintro ⟨b, cur, h1, h2, h3, h4, h5, h6⟩
  refine ⟨b, cur, h1, h2, h3, h4, h5, h6.1, fun j x hj => ?_⟩
  obtain ⟨us, h7, h8⟩ := h6.2 j x hj
  exact ⟨us, RepT_mono hb.ok (fun _ _ => rfl) _ _ _ h7, h8⟩
 | mix xs =>
  have hg := hg xs rfl
  have hn : lenO (outO me ids T ⟨e, g, .mix xs⟩) = lenO ⟨e, g, .mix xs⟩ := by simp [outO, lenO, outL_map]
  refine ⟨h.e, h.g, hn.trans h.n, h.pos, h.at_.imp id ?_⟩
  rintro ⟨b, cur, h1, h2, h3, h4, h5, h6⟩
  refine ⟨b, cur, h1, h2, h3, h4, h5, fun j x hj => ?_⟩
  rw [outL_map, List.getElem?_map] at hj
  obtain ⟨y, hy, rfl⟩ := Option.map_eq_some_iff.1 hj
  obtain ⟨us, h7, h8⟩ := h6 j y hy
  refine ⟨us, ?_, h8⟩
  rw [outA_cells, ← outL_map]
  exact outL_rep hb _ _ (hg.sub fun t ht => tagsL_mem (List.mem_of_getElem? hy) (tags_cells ht)) h7
end
end AX
namespace AX
section
variable {C C' : Ctx} {w w' : World} {hp hc h' : Heap} {me : Id} {ids : List Id} {T : List AV} {res : AV} {v : Value}
theorem outI_cases {i j : Id} (h : outI me ids i = some j) : (∃ n, i = [0, n] ∧ ids[n]? = some j) ∨ j = me ++ i := by
 unfold outI at h
 split at h
 ·rename_i n; exact .inl ⟨n, rfl, h⟩
 ·exact .inr (Option.some.inj h).symm
theorem back_ok (hs : HSim C (hget hp) w) (hh : Handed C w hp ids T hc) (hf : ∀ r, C.m (me ++ r) = none) (hs' : HSim C' (hget h') w') (he : Ext (C.into ids T) (hget hc) w C' (hget h') w') (hv : RepA C' w' res v) :
  ∃ C'', RepA C'' w' (outA me ids T res) v ∧ HSim C'' (hget (hsets (hdels hp (ids ++ gone T (tagsA res ++ tagsH h'))) (outH me ids T h'))) w' ∧
   Ext C (hget hp) w C'' (hget (hsets (hdels hp (ids ++ gone T (tagsA res ++ tagsH h'))) (outH me ids T h'))) w' ∧ ∀ id l, C''.m id = some l → C.m id = some l ∨ ∃ r, id = me ++ r := by
 generalize hG : gone T (tagsA res ++ tagsH h') = G
 have old : ∀ {i : Id}, i ∈ ids → ∃ o l, hget hp i = some o ∧ C.m i = some l := fun hi => by
  obtain ⟨o, ho⟩ := hh.there _ hi
  obtain ⟨l, hl, _⟩ := hs.obj _ o ho
  exact ⟨o, l, ho, hl⟩
 have hb : Backs C C' me ids T (C.back C' me G) := by
  refine ⟨fun i j l hj hl => ?_, rfl, he.τ, fun b h => .inl h, (congrArg Ghost.y he.gh).symm⟩
  rcases outI_cases hj with ⟨n, rfl, hn⟩ | rfl
  ·obtain ⟨o, l1, ho, hl1⟩ := old (List.mem_of_getElem? hn)
   have h1 : (C.into ids T).m [0, n] = some l1 := by simp [Ctx.into, hn, hl1]
   have h2 := he.m _ _ h1
   rw [hl] at h2
   cases h2
   exact back_old hl1
  ·rw [back_new (hf i)]; exact hl
 have hgood : ∀ i ∈ G, i ∉ ids ∧ ∃ o l, hget hp i = some o ∧ C.m i = some l := fun i hi => by
  rw [← hG] at hi
  have := hh.tags _ (gone_inv hi)
  obtain ⟨h1, o, ho⟩ := this
  obtain ⟨l, hl, _⟩ := hs.obj _ o ho
  exact ⟨nth_none h1, o, l, ho, hl⟩
 have hgave : Gave T C (C.back C' me G) (tagsA res ++ tagsH h') := fun t i ht hi l b hl hlb => .inr ⟨i, by rw [← hG]; exact gone_mem ht hi, l, hl, hlb⟩
 have hinj : ∀ i i' j, outI me ids i = some j → outI me ids i' = some j → i = i' := by
  intro i i' j h1 h2
  rcases outI_cases h1 with ⟨n, rfl, hn⟩ | rfl
  ·obtain ⟨o, l, _, hl⟩ := old (List.mem_of_getElem? hn)
   rcases outI_cases h2 with ⟨n', rfl, hn'⟩ | rfl
   ·rw [nodup_idx hh.nodup hn hn']
   ·rw [hf] at hl; cases hl
  ·rcases outI_cases h2 with ⟨n', rfl, hn'⟩ | h3
   ·obtain ⟨o, l, _, hl⟩ := old (List.mem_of_getElem? hn')
    rw [hf] at hl; cases hl
   ·exact List.append_cancel_left h3
 have hcase : ∀ j o, hget (hsets (hdels hp (ids ++ G)) (outH me ids T h')) j = some o → (∃ i o', outI me ids i = some j ∧ hget h' i = some o' ∧ o = outO me ids T o') ∨ (hget hp j = some o ∧ j ∉ ids ∧ j ∉ G) := by
  intro j o hj
  rw [hget_hsets] at hj
  split at hj
  ·rename_i o2 ho2
   cases hj
   exact .inl (hget_outH hinj ho2)
  ·obtain ⟨h1, h2⟩ := hdels_sub _ j o hj
   rw [List.mem_append, not_or] at h2
   exact .inr ⟨h1, h2.1, h2.2⟩
 have ownd : ∀ b, own C' (hget h') b → w.heap.size ≤ b ∨ ∃ i o l, i ∈ ids ∧ hget hp i = some o ∧ C.m i = some l ∧ l.b = some b := fun b hb => (he.own' b hb).imp (fun h => h) (own_into hh)
 have nown : ∀ j o l b, hget hp j = some o → j ∉ ids → C.m j = some l → l.b = some b → ¬ own (C.into ids T) (hget hc) b := by
  intro j o l b h1 h2 h3 h4 h5
  obtain ⟨i, o', l', a1, a2, a3, a4⟩ := own_into hh h5
  exact h2 (hs.inj j i o o' l l' b h1 a2 h3 a3 h4 a4 ▸ a1)
 have rdn : ∀ b, C.rd b → ¬ own (C.into ids T) (hget hc) b := by
  intro b h1 h2
  obtain ⟨i, o', l', a1, a2, a3, a4⟩ := own_into hh h2
  exact hs.sep i o' l' b a2 a3 a4 h1
 have hle : Le C w (C.back C' me G) w' := ⟨(fun _ _ h => h), fun id l hl => back_old hl, rfl, fun b hb => .inl (he.ok b hb), fun a ha => cell_of_block (he.frame _ (hs.live _ ha) (rdn _ ha))⟩
 have rd' : ∀ b, C.τ = C.τ → (∃ t, C.τ t = some b) → C'.rd b := by
  rintro b - ⟨t, ht⟩
  refine .inr ⟨T.length + t, ?_⟩
  rw [he.τ]
  simp [Ctx.into, ht]
 have rdG : ∀ i ∈ G, ∀ l b, C.m i = some l → l.b = some b → C'.rd b := by
  intro i hi l b hl hlb
  rw [← hG] at hi
  obtain ⟨t, ht⟩ := List.getElem?_of_mem (gone_inv hi)
  refine .inr ⟨t, ?_⟩
  rw [he.τ]
  simp [Ctx.into, ht, tagB, hl, hlb]
 refine ⟨C.back C' me G, outA_rep hb res v (hgave.sub fun t ht => List.mem_append.2 (.inl ht)) hv, ⟨fun j o hj => ?_, fun j j' o o' l l' b h1 h2 h3 h4 h5 h6 => ?_, fun j o l b h1 h2 h3 h4 => ?_, fun b hb2 => ?_⟩, ?_, fun id l hl => ?_⟩
 ·rcases hcase j o hj with ⟨i, o', h1, h2, rfl⟩ | ⟨h1, h2, h3⟩
  ·obtain ⟨l, h4, h5⟩ := hs'.obj i o' h2
   refine ⟨l, hb.m i j l h1 h4, outO_at hb (fun xs hx => ?_) h5⟩
   obtain ⟨e, g, el⟩ := o'
   simp only at hx
   subst hx
   exact hgave.sub fun t ht => List.mem_append.2 (.inr (tagsH_mem h2 ht))
  ·obtain ⟨l, h4, h5⟩ := hs.obj j o h1
   exact ⟨l, back_old h4, h5.mono hle (fun b hb2 => he.frame b (obj_lt hs h1 h4 hb2) (nown j o l b h1 h2 h4 hb2))⟩
 ·
  have oldm : ∀ {j : Id} {o : Obj} {l : Loc}, hget hp j = some o → (C.back C' me G).m j = some l → C.m j = some l := fun ho hl => by
   obtain ⟨l2, h, _⟩ := hs.obj _ _ ho
   rw [back_old h] at hl
   rw [h]; exact hl
  have newm : ∀ {i j : Id} {o : Obj} {l : Loc}, outI me ids i = some j → hget h' i = some o → (C.back C' me G).m j = some l → C'.m i = some l := fun hi ho hl => by
   obtain ⟨l2, h, _⟩ := hs'.obj _ _ ho
   rw [hb.m _ _ l2 hi h] at hl
   rw [h]; exact hl
  have mixed : ∀ {i j j' : Id} {o o' : Obj} {l l' : Loc}, outI me ids i = some j → hget h' i = some o → C'.m i = some l → l.b = some b → hget hp j' = some o' → j' ∉ ids → C.m j' = some l' → l'.b = some b → False := by
   intro i j j' o o' l l' _ a2 a3 a4 a5 a6 a7 a8
   rcases ownd b ⟨i, o, l, a2, a3, a4⟩ with h7 | ⟨i2, o2, l2, b1, b2, b3, b4⟩
   ·have := obj_lt hs a5 a7 a8; omega
   ·exact a6 (hs.inj j' i2 o' o2 l' l2 b a5 b2 a7 b3 a8 b4 ▸ b1)
  rcases hcase j o h1 with ⟨i, p, a1, a2, _⟩ | ⟨a1, a2, a3⟩
  ·rcases hcase j' o' h2 with ⟨i', p', b1, b2, _⟩ | ⟨b1, b2, b3⟩
   ·obtain rfl := hs'.inj i i' p p' l l' b a2 b2 (newm a1 a2 h3) (newm b1 b2 h4) h5 h6
    rw [a1] at b1
    exact Option.some.inj b1
   ·exact (mixed a1 a2 (newm a1 a2 h3) h5 b1 b2 (oldm b1 h4) h6).elim
  ·rcases hcase j' o' h2 with ⟨i', p', b1, b2, _⟩ | ⟨b1, b2, b3⟩
   ·exact (mixed b1 b2 (newm b1 b2 h4) h6 a1 a2 (oldm a1 h3) h5).elim
   ·exact hs.inj j j' o o' l l' b a1 b1 (oldm a1 h3) (oldm b1 h4) h5 h6
 ·
  rcases hcase j o h1 with ⟨i, p, a1, a2, _⟩ | ⟨a1, a2, a3⟩
  ·obtain ⟨l2, h5, _⟩ := hs'.obj i p a2
   rw [hb.m i j l2 a1 h5] at h2
   cases h2
   have hno := hs'.sep i p l b a2 h5 h3
   rcases h4 with (h4 | ⟨i', hi', l', h6, h7⟩) | h4
   ·exact hno (.inl h4)
   ·exact hno (rdG i' hi' l' b h6 h7)
   ·exact hno (rd' b rfl h4)
  ·obtain ⟨l2, h5, _⟩ := hs.obj j o a1
   rw [back_old h5] at h2
   cases h2
   rcases h4 with (h4 | ⟨i', hi', l', h6, h7⟩) | h4
   ·rcases he.okb b h4 with h6 | h6 | h6
    ·exact hs.sep j o l b a1 h5 h3 (.inl h6)
    ·have := obj_lt hs a1 h5 h3; omega
    ·exact nown j o l b a1 a2 h5 h3 h6
   ·obtain ⟨_, o', l3, g1, g2⟩ := hgood i' hi'
    rw [h6] at g2
    cases g2
    exact a3 (hs.inj j i' o o' l l' b a1 g1 h5 h6 h3 h7 ▸ hi')
   ·exact hs.sep j o l b a1 h5 h3 (.inr h4)
 ·rcases hb2 with (h4 | ⟨i', hi', l', h6, h7⟩) | h4
  ·exact hs'.live b (.inl h4)
  ·exact hs'.live b (rdG i' hi' l' b h6 h7)
  ·exact hs'.live b (rd' b rfl h4)
 ·refine ⟨rfl, he.os, he.tape, he.output, he.size, fun id l hl => back_old hl, rfl, fun b hb2 => .inl (he.ok b hb2), fun b hb2 => ?_, fun b hb2 hno => he.frame b hb2 (fun h => hno ?_), fun b hb2 => ?_⟩
  ·rcases hb2 with h4 | ⟨i', hi', l', h6, h7⟩
   ·rcases he.okb b h4 with h6 | h6 | h6
    ·exact .inl h6
    ·exact .inr (.inl h6)
    ·obtain ⟨i, o, l, _, a2, a3, a4⟩ := own_into hh h6
     exact .inr (.inr ⟨i, o, l, a2, a3, a4⟩)
   ·obtain ⟨_, o', l3, g1, g2⟩ := hgood i' hi'
    exact .inr (.inr ⟨i', o', l', g1, h6, h7⟩)
  ·obtain ⟨i, o, l, _, a2, a3, a4⟩ := own_into hh h
   exact ⟨i, o, l, a2, a3, a4⟩
  ·obtain ⟨j, o, l, h1, h2, h3⟩ := hb2
   rcases hcase j o h1 with ⟨i, p, a1, a2, _⟩ | ⟨a1, a2, a3⟩
   ·obtain ⟨l2, h5, _⟩ := hs'.obj i p a2
    rw [hb.m i j l2 a1 h5] at h2
    cases h2
    rcases ownd b ⟨i, p, l, a2, h5, h3⟩ with h6 | ⟨i2, o2, l3, _, b2, b3, b4⟩
    ·exact .inl h6
    ·exact .inr ⟨i2, o2, l3, b2, b3, b4⟩
   ·obtain ⟨l2, h5, _⟩ := hs.obj j o a1
    rw [back_old h5] at h2
    cases h2
    exact .inr ⟨j, o, l, a1, h5, h3⟩
 ·unfold Ctx.back at hl
  simp only at hl
  split at hl
  ·rename_i l2 h1; cases hl; exact .inl h1
  ·split at hl
   ·rename_i he2 _
    exact .inr ⟨id.drop me.length, by
     have := List.take_append_drop me.length id
     rw [he2] at this
     exact this.symm⟩
   ·cases hl
end
end AX
namespace AX
def NoNum (P : Program) : Prop := ∀ (f : FuncId) (fn : Func), P.funcs[f]? = some fn → fn.body.isNone = false → (fn.name == "runtime.NumGoroutine") = false
def RetK (k : AV → Heap → Option Bool) (C : Ctx) (h : Heap) (w : World) (r : Ending) (w' : World) : Prop := ∃ v res h' C', r = .returned v ∧ k res h' = some true ∧ RepA C' w' res v ∧ HSim C' (hget h') w' ∧ Ext C (hget h) w C' (hget h') w'
def paramsIn (g : GY) (vals : Array Value) : Array Value := (g.r.params.zip vals).foldl (fun tmps (t, a) => tmps.setIfInBounds t a) g.r.tmps
def FunKOk (P : Program) (ht : Hints) (d : Nat) : Prop :=
 ∀ (f : FuncId) (args : List AV) (h : Heap) (k : AV → Heap → Option Bool) (C : Ctx) (w : World) (vals : Array Value), f < RND → callK P ht d f args h k = some true → RepL C w args vals.toList → HSim C (hget h) w → Base C → Recs P C.gh.y w →
  Calls P f vals w (RetK k C h w)
def RoundKOk (P : Program) (ht : Hints) (d : Nat) : Prop :=
 ∀ (key : Nat) (g : GY) (args : List AV) (h : Heap) (k : AV → Heap → Option Bool) (C : Ctx) (w : World) (vals : Array Value), C.gh.y key = some g → callK P ht d (RND + key / BLOCKS) args h k = some true → RepL C w args (vals.toList ++ g.r.tmps.toList) → vals.size = g.r.params.size → HSim C (hget h) w → Base C → Recs P C.gh.y w →
  lowL (key % BLOCKS) args = true → lowH (key % BLOCKS) h = true → ∀ rd, RoundIn (Wd rd) 0 P g.l g.r.fn (paramsIn g vals) g.r.assign g.r.body w (RetK k C h w)
def CallKOk (P : Program) (ht : Hints) (d : Nat) : Prop := FunKOk P ht d ∧ RoundKOk P ht d
section
variable {P : Program} {ht : Hints}
theorem callK_zero {f : FuncId} {args : List AV} {h : Heap} {k : AV → Heap → Option Bool} : callK P ht 0 f args h k = none := rfl
theorem callK_succ {d : Nat} : callK P ht (d + 1) = callS P ht (callK P ht d) := rfl
theorem blt_add (r c : Nat) : Nat.blt (r + c) r = false := by
 cases hb : Nat.blt (r + c) r with
 | false => rfl
 | true => rw [Nat.blt_eq] at hb; omega
theorem callS_fun {rec : RecF} {f : FuncId} (hf : f < RND) {args : List AV} {h : Heap} {k : AV → Heap → Option Bool} : callS P ht rec f args h k = funS P ht rec f args h k := by
 rw [callS, Nat.blt_eq.mpr hf, _root_.cond_true]
theorem callS_round {rec : RecF} {c : Nat} {args : List AV} {h : Heap} {k : AV → Heap → Option Bool} : callS P ht rec (RND + c) args h k = roundS P ht rec (RND + c) c args h k := by
 rw [callS, blt_add, Nat.add_sub_cancel_left, cond_false]
theorem callK_fn {d : Nat} {f : FuncId} (hf : f < RND) {args : List AV} {h : Heap} {k : AV → Heap → Option Bool} (hc : callK P ht d f args h k = some true) : ∃ fn c, P.funcs[f]? = some fn ∧ fn.body = some c := by
 cases d with
 | zero => cases hc
 | succ d =>
  rw [callK_succ, callS_fun hf, funS] at hc
  split at hc
  ·rename_i fn hfn
   split at hc
   ·rename_i c hb; exact ⟨fn, c, hfn, hb⟩
   ·cases hc
  ·cases hc
theorem run_callFunc {f : FuncId} {fn : Func} {c : Code} (hn : NoNum P) (hf : P.funcs[f]? = some fn) (hb : fn.body = some c) (args : Array Value) (w : World) : (callFunc f args).run P w = .ok (.enter f args) w := by
 have h1 := hn f fn hf (by rw [hb]; rfl)
 have h2 : (fn.name == "runtime.NumGoroutine") = false := h1
 have h3 : ¬ fn.name = "runtime.NumGoroutine" := by simpa using h2
 simp [callFunc, hf, hb, h3]
theorem calleeOf_inv {g : AV} {xs : List AV} {g' : FuncId} {xs' : List AV} {m : Option Nat} (h : calleeOf P g xs = some (g', xs', m)) :
  (∃ first captured, g = .fn (.func g') first captured ∧ g' < RND ∧ xs' = first ++ xs ++ captured ∧ m = none) ∨
  (∃ key p slots rb, g = .fn (.yield key) p slots ∧ roundOf P (key / BLOCKS) = some rb ∧ xs.length = rb.params.size ∧ g' = RND + key / BLOCKS ∧ xs' = xs ++ slots ∧ m = some (key % BLOCKS)) := by
 unfold calleeOf at h
 split at h
 ·split at h
  ·rename_i hb
   cases h
   exact .inl ⟨_, _, rfl, Nat.blt_eq.mp hb, rfl, rfl⟩
  ·cases h
 ·split at h
  ·rename_i rb hr
   split at h
   ·rename_i hb
    cases h
    exact .inr ⟨_, _, _, rb, rfl, hr, Nat.eq_of_beq_eq_true hb, rfl, rfl, rfl⟩
   ·cases h
  ·cases h
 ·cases h
theorem hand_over {rec : FuncId → List AV → Heap → (AV → Heap → Option Bool) → Option Bool} {C : Ctx} {U : Nat → Prop} {st : St} {a : Act} {w : World} {i : Nat} {g : FuncId} {xs : List AV} {m : Option Nat} {V : List Value} {k : Eff → List Id → Option Bool} (hs : Sim P C U st a w) (hi : ¬ U i) (hxs : RepL C w xs V) {ids : List Id} (hids : reachH st.hp FUEL (ptrsL xs ++ mixIds (genF P g) st.hp xs) [] = ids)
  (h : (match inL st.hp ids [] xs with
   | some (ys, t) => match inHeap st.hp ids 0 ids t with
    | some (hc, t) => match lowO m ys hc with
     | true => rec g ys hc fun res h' => k ⟨true, outA [st.n, i] ids t res, ids ++ gone t (tagsA res ++ tagsH h'), outH [st.n, i] ids t h'⟩ (ids ++ (idsL xs ++ ids.flatMap (idsAt st.hp)))
     | false => none
    | none => none
   | none => none) = some true) :
  ∃ T ys hc k', rec g ys hc k' = some true ∧ lowO m ys hc = true ∧ RepL (C.into ids T) w ys V ∧ HSim (C.into ids T) (hget hc) w ∧
   ∀ r w', RetK k' (C.into ids T) hc w r w' → ∃ v e foot C', r = .returned v ∧ k e foot = some true ∧ EffR C st.hp w st.n i e v C' w' := by
 have hreach := reachH_ok (h := st.hp) (n := FUEL) (l := ptrsL xs ++ mixIds (genF P g) st.hp xs) (seen := []) List.nodup_nil (fun i hi => by cases hi)
 rw [hids] at hreach
 split at h
 ·rename_i ys t hl
  split at h
  ·rename_i hc T hheap
   split at h
   ·rename_i hlow
    obtain ⟨h3, h4⟩ := inL_ok hs.heap _ _ _ _ hl
    obtain ⟨h5, h6⟩ := inHeap_ok hs.heap hheap
    have hT : ∀ x ∈ T, goodTag st.hp ids x := by
     obtain ⟨ext, he, hg⟩ := h3.trans h5
     rw [List.nil_append] at he
     subst he
     exact hg
    have hh : Handed C w st.hp ids T hc := ⟨hreach.1, hreach.2, hT, fun id o ho => by
     obtain ⟨k, i', o0, b1, b2, b3, b4⟩ := h6 id o ho
     exact ⟨k, i', o0, by rw [b1, Nat.zero_add], b2, b3, fun loc => b4 T loc (List.prefix_refl _)⟩⟩
    refine ⟨T, ys, hc, _, h, hlow, h4 T _ h5.pre hxs, hs.heap.into hh, fun r w' hr => ?_⟩
    obtain ⟨v, res, h', C', rfl, h7, h8, h9, h10⟩ := hr
    obtain ⟨C'', g1, g2, g3, g4⟩ := back_ok (me := [st.n, i]) hs.heap hh (fun r => hs.newId hi r) h9 h10 h8
    exact ⟨v, _, _, C'', rfl, h7, ⟨g1, g2, g3, g4⟩⟩
   ·cases h
  ·cases h
 ·cases h
theorem callSound_go (hn : NoNum P) {d : Nat} (hd : CallKOk P ht d) : CallSound P (callfGo P (callK P ht d)) := by
 intro C U st a w i f xs fv vs k hs hi hfv hvs h
 unfold callfGo at h
 split at h
 ·rename_i g xs' m hcal
  dsimp only at h
  rcases calleeOf_inv hcal with ⟨first, captured, rfl, hlt, rfl, rfl⟩ | ⟨key, p, slots, rb, rfl, hrb, hlen, rfl, rfl, rfl⟩
  ·obtain ⟨x, y, rfl, h1, h2⟩ := RepA_fn.1 hfv
   have hxs : RepL C w (first ++ xs ++ captured) ((x ++ vs) ++ y).toList := by
    rw [Array.toList_append, Array.toList_append]
    exact RepL_append (RepL_append h1 hvs) h2
   obtain ⟨T, ys, hc, k', a1, _, a2, a3, a4⟩ := hand_over (rec := callK P ht d) (m := none) (g := g) (k := k) hs hi hxs rfl h
   obtain ⟨fn, c, hfn, hb⟩ := callK_fn hlt a1
   refine .inl ⟨g, (x ++ vs) ++ y, ?_, Calls.mono (hd.1 _ _ _ _ _ w ((x ++ vs) ++ y) hlt a1 a2 a3 into_base hs.defers.2) a4⟩
   have := run_callFunc hn hfn hb ((x ++ vs) ++ y) w
   simp only [Deferred.ofValue, Sem.run_bind, Sem.run_pure, Result.andThen_ok, invoke]
   exact this
  ·obtain ⟨x, y, ⟨G, hy, rfl, rfl, rfl⟩, h1, h2⟩ := RepA_fn.1 hfv
   obtain ⟨r1, r2, r3, r4⟩ := hs.defers.2.1 key G hy
   rw [hrb] at r4
   have hsz : vs.size = G.r.params.size := by
    have := RepL_len hvs
    rw [Array.length_toList] at this
    exact this.trans (hlen.trans (by rw [Option.some.inj r4]))
   obtain ⟨T, ys, hc, k', a1, alow, a2, a3, a4⟩ := hand_over (rec := callK P ht d) (m := some (key % BLOCKS)) (g := RND + key / BLOCKS) (k := k) (V := vs.toList ++ G.r.tmps.toList) hs hi (RepL_append hvs h2) rfl h
   simp only [lowO, Bool.and_eq_true] at alow
   refine .inr ⟨G.l, G.r.fn, paramsIn G vs, G.r.assign, G.r.body, ?_, ⟨_, _, _, rfl⟩, fun rd => RoundIn.mono (hd.2 key G _ _ _ (C.into _ T) w vs hy a1 a2 hsz a3 into_base hs.defers.2 alow.1 alow.2 rd) a4⟩
   have := run_yield (P := P) r1 hsz
   simp only [Deferred.ofValue, Sem.run_bind, Sem.run_pure, Result.andThen_ok, invoke, Array.empty_append, Array.append_empty]
   exact this
 ·cases h
theorem primE_inv {g : AV} {xs : List AV} {b : Bool} {z : AV} (h : primE P g xs = some (b, z)) : ∃ f s n, g = .fn (.func f) [] [] ∧ xs = [.d ⟨.str, s⟩, .d ⟨.int .i64, n⟩] ∧ f < RND ∧ hasF P f = true ∧ b = ascii (s_ s) ∧ z = vb (hasB (s_ s) (i_ n)) := by
 unfold primE at h
 split at h
 ·split at h
  ·rename_i ht
   rw [Bool.and_eq_true, Nat.blt_eq] at ht
   cases h
   exact ⟨_, _, _, rfl, rfl, ht.1, ht.2, rfl, rfl⟩
  ·cases h
 ·cases h
theorem hasF_fn {f : FuncId} (h : hasF P f = true) : ∃ fn c, P.funcs[f]? = some fn ∧ fn.body = some c := by
 unfold hasF at h
 split at h
 ·rename_i fn hf
  split at h
  ·rename_i c hb; exact ⟨fn, c, hf, hb⟩
  ·cases h
 ·cases h
theorem RepT_strH {w : World} {ok : Nat → Prop} {s : Ty.T .str} {cs : List Value} : RepT w ok .str s cs ↔ cs = [.string (s_ s)] := by rw [RepT]
theorem RepT_intH {w : World} {ok : Nat → Prop} {k : IntKind} {n : Ty.T (.int k)} {cs : List Value} : RepT w ok (.int k) n cs ↔ cs = [.int k (i_ n)] := by rw [RepT]
theorem callSound_of (hn : NoNum P) {d : Nat} (hd : CallKOk P ht d) : CallSound P (callfOf P (callK P ht d)) := by
 intro C U st a w i f xs fv vs k hs hi hfv hvs h
 unfold callfOf at h
 split at h
 ·rename_i b z hp
  obtain ⟨g, s, n, rfl, rfl, hlt, hh, rfl, rfl⟩ := primE_inv hp
  rcases cond_true h with ⟨hasc, hk⟩ | ⟨_, h⟩
  rotate_left
  ·cases h
  obtain ⟨x, y, rfl, h1, h2⟩ := RepA_fn.1 hfv
  obtain ⟨fn, c, hfn, hb⟩ := hasF_fn hh
  have hx : x = #[] := Array.ext' (RepL_nil.1 h1)
  have hy : y = #[] := Array.ext' (RepL_nil.1 h2)
  subst hx
  subst hy
  obtain ⟨u, q, hvl, r1, r2⟩ := RepL_cons.1 hvs
  obtain ⟨u', q', rfl, r3, r4⟩ := RepL_cons.1 r2
  rw [RepL_nil.1 r4] at hvl
  rw [RepA_d] at r1 r3
  obtain ⟨cs, t1, t2⟩ := r1
  obtain ⟨cs', t3, t4⟩ := r3
  replace t1 : RepT w C.ok .str s cs := t1
  replace t3 : RepT w C.ok (.int .i64) n cs' := t3
  replace t1 := RepT_strH.1 t1
  replace t3 := RepT_intH.1 t3
  replace t2 : cs = [u] := t2
  replace t4 : cs' = [u'] := t4
  have hu : u = .string (s_ s) := by rw [t1] at t2; injection t2 with t2; exact t2.symm
  have hu' : u' = .int .i64 (i_ n) := by rw [t3] at t4; injection t4 with t4; exact t4.symm
  have hvs' : vs = #[.string (s_ s), .int .i64 (i_ n)] := by rw [hu, hu'] at hvl; exact Array.ext' hvl
  subst hvs'
  refine .inl ⟨g, #[.string (s_ s), .int .i64 (i_ n)], ?_, Calls.mono (has_calls hh hasc w) fun r w' hr => ?_⟩
  ·have := run_callFunc hn hfn hb #[.string (s_ s), .int .i64 (i_ n)] w
   simp only [Deferred.ofValue, Sem.run_bind, Sem.run_pure, Result.andThen_ok, invoke, Array.append_empty, Array.empty_append]
   exact this
  ·obtain ⟨rfl, p, rfl⟩ := hr
   have hg : Grown w (w.iter (s_ s) p) := (Grown.refl w).alloc _
   exact ⟨_, _, _, C, rfl, hk, ⟨RepA_vb, hg.heap hs.heap, ⟨rfl, hg.os, hg.tape, hg.output, hg.size, fun _ _ h => h, rfl, fun _ h => h, fun _ h => .inl h, fun b hb _ => hg.at_ b hb, fun _ h => .inr h⟩, fun _ _ h => .inl h⟩⟩
 ·exact callSound_go hn hd C U st a w i f xs fv vs k hs hi hfv hvs h
end
end AX
namespace AX
section
variable {P : Program} {C : Ctx} {w : World} {st : St} {a : Act}
def resOne (tmps : Array Value) : ResultVar → Sem Value
 | .tmp t => pure (tmps.getD t undef)
 | .cell x t => do loadVar t (← asAddr (tmps.getD x undef))
theorem resGo_ok (hsl : Slots C w st.sl a) (hs : HSim C (hget st.hp) w) : ∀ {l : List ResultVar} {rs : List AV}, resGo P st l = some rs → ∃ vs, (l.mapM (resOne a.tmps)).run P w = .ok vs w ∧ RepL C w rs vs
 | [], rs, h => by
  rw [resGo] at h
  cases h
  exact ⟨[], rfl, RepL_nil.2 rfl⟩
 | .tmp t :: r, rs, h => by
  rw [resGo] at h
  split at h
  ·rename_i xs hxs
   cases h
   obtain ⟨vs, h1, h2⟩ := resGo_ok hsl hs hxs
   refine ⟨a.tmps.getD t undef :: vs, ?_, RepL_cons.2 ⟨_, _, rfl, hsl.get t, h2⟩⟩
   rw [List.mapM_cons]
   simp [resOne, h1]
  ·cases h
 | .cell x t :: r, rs, h => by
  rw [resGo] at h
  split at h
  ·rename_i id i off n g hx hn hg
   split at h
   ·rename_i ob hob
    split at h
    ·rename_i y xs hy hxs
     cases h
     obtain ⟨vs, h1, h2⟩ := resGo_ok hsl hs hxs
     have hp := hsl.get x
     rw [hx] at hp
     obtain ⟨u, h3, h4⟩ := ptr_load (P := P) hs hn hg hob hy hp
     obtain ⟨l, b, _, _, _, h5⟩ := RepA_ptr.1 hp
     rw [h5] at h3
     refine ⟨u :: vs, ?_, RepL_cons.2 ⟨_, _, rfl, h4, h2⟩⟩
     rw [List.mapM_cons]
     have h6 : (resOne a.tmps (.cell x t)).run P w = .ok u w := by
      simpa [resOne, h5, asAddr, Instr.loadAt, Instr.sureAddr] using h3
     simp [h6, h1]
    ·cases h
   ·cases h
  ·cases h
theorem results_ok (hsl : Slots C w st.sl a) (hs : HSim C (hget st.hp) w) {fn : Func} {rs : List AV} (h : results? P fn st = some rs) : ∃ vs : List Value, (results fn a.tmps).run P w = .ok (match vs with | [x] => x | _ => .tuple vs.toArray) w ∧ RepL C w rs vs := by
 obtain ⟨vs, h1, h2⟩ := resGo_ok hsl hs h
 refine ⟨vs, ?_, h2⟩
 have h3 : (fn.results.mapM (resOne a.tmps)).run P w = .ok vs.toArray w := by
  rw [Array.mapM_eq_mapM_toList]
  simp [h1]
 have h4 : (results fn a.tmps).run P w = ((fn.results.mapM (resOne a.tmps)).run P w).andThen fun vs w => .ok (if h : vs.size = 1 then vs[0] else .tuple vs) w := by
  unfold results
  rw [Sem.run_bind]
  rfl
 rw [h4, h3]
 cases vs with
 | nil => rfl
 | cons x r =>
  cases r with
  | nil => rfl
  | cons y r => simp
end
end AX
namespace AX
section
variable {P : Program} {w : World} {st : St} {a : Act} {C0 : Ctx} {h0 : Id → Option Obj} {w0 : World}
theorem virtR_ok : ∀ {i : Nat} {rs : List AV} {ts : List TypeId} {h : Heap} {C : Ctx} {vs : List Value} {rs' : List AV} {h' : Heap}, virtR P st h i rs ts = (rs', h') → HSim C (hget h) w → (∀ j r, i ≤ j → C.m (st.n :: j :: r) = none) → RepL C w rs vs → Ext C0 h0 w0 C (hget h) w →
  ∃ C', HSim C' (hget h') w ∧ RepL C' w rs' vs ∧ Ext C0 h0 w0 C' (hget h') w ∧ Le C w C' w
 | i, [], ts, h, C, vs, rs', h', hv, hs, hf, hr, he => by
  rw [virtR] at hv
  cases hv
  exact ⟨C, hs, hr, he, Ext.le hs (Ext.refl C _ w)⟩
 | i, x :: r, ts, h, C, vs, rs', h', hv, hs, hf, hr, he => by
  obtain ⟨u, q, rfl, h1, h2⟩ := RepL_cons.1 hr
  have same : ∀ {ts' : List TypeId} {ys : List AV} {h2' : Heap}, virtR P st h (i + 1) r ts' = (ys, h2') → ∃ C', HSim C' (hget h2') w ∧ RepL C' w (x :: ys) (u :: q) ∧ Ext C0 h0 w0 C' (hget h2') w ∧ Le C w C' w := by
   intro ts' ys h2' hv'
   obtain ⟨C', a1, a2, a3, a4⟩ := virtR_ok hv' hs (fun j r hj => hf j r (by omega)) h2 he
   exact ⟨C', a1, RepL_cons.2 ⟨u, q, rfl, RepA_mono a4 x u h1, a2⟩, a3, a4⟩
  by_cases hx : x = .nils ∧ ts ≠ []
  ·obtain ⟨rfl, hts⟩ := hx
   obtain ⟨t, ts', rfl⟩ := List.exists_cons_of_ne_nil hts
   rw [virtR] at hv
   split at hv
   ·rename_i e _
    split at hv
    ·rename_i ty g _ _
     split at hv
     ·rename_i hb
      simp only [Bool.and_eq_true, Nat.blt_eq] at hb
      cases hv' : virtR P st (([st.n, i], ⟨e, g, .data ty []⟩) :: h) (i + 1) r ts' with
      | mk ys h2' =>
       rw [hv'] at hv
       cases hv
       have hfi : C.m [st.n, i] = none := hf i [] (Nat.le_refl _)
       have hform : ∀ j x, hget (([st.n, i], ⟨e, g, .data ty []⟩) :: h) j = some x → (j = [st.n, i] ∧ x = ⟨e, g, .data ty []⟩) ∨ (j ≠ [st.n, i] ∧ hget h j = some x) := by
        intro j x hx
        rw [hget] at hx
        split at hx
        ·rename_i hi _; cases hx; exact .inl ⟨hi.symm, rfl⟩
        ·rename_i hi _; exact .inr ⟨fun e => hi e.symm, hx⟩
       have hle : Le C w (C.add [st.n, i] ⟨none, 0, 0, g, e⟩) w := ⟨(fun _ _ h => h), add_m hfi, rfl, fun _ hx => hx, fun _ _ => rfl⟩
       obtain ⟨C', a1, a2, a3, a4⟩ := virtR_ok (C := C.add [st.n, i] ⟨none, 0, 0, g, e⟩) hv' (HSim.virt hs hfi rfl rfl hform rfl rfl rfl hb.2) (fun j q' hj => by
        cases hm : (C.add [st.n, i] ⟨none, 0, 0, g, e⟩).m (st.n :: j :: q') with
        | none => rfl
        | some l =>
         exfalso
         rcases add_inv hm with ⟨h5, _⟩ | ⟨_, h5⟩
         ·cases h5; omega
         ·rw [hf j q' (by omega)] at h5; cases h5) (RepL_mono hle _ _ h2) (he.trans (Ext.virt hfi rfl hform))
       refine ⟨C', a1, RepL_cons.2 ⟨u, q, rfl, ?_, a2⟩, a3, ⟨a4.gh, fun id l h => a4.m id l (hle.m id l h), a4.τ, a4.ok, fun _ _ => rfl⟩⟩
       rw [RepA_nils] at h1
       exact RepA_ref.2 ⟨_, a4.m _ _ (add_self _ _ _), .inl ⟨rfl, rfl, none, h1⟩⟩
     ·cases hv' : virtR P st h (i + 1) r ts' with
      | mk ys h2' => rw [hv'] at hv; cases hv; exact same hv'
    ·cases hv' : virtR P st h (i + 1) r ts' with
     | mk ys h2' => rw [hv'] at hv; cases hv; exact same hv'
   ·cases hv' : virtR P st h (i + 1) r ts' with
    | mk ys h2' => rw [hv'] at hv; cases hv; exact same hv'
  ·have hd : virtR P st h i (x :: r) ts = (x :: (virtR P st h (i + 1) r ts.tail).1, (virtR P st h (i + 1) r ts.tail).2) := by
    rw [virtR]
    rintro t ts' rfl rfl
    exact hx ⟨rfl, by simp⟩
   rw [hd] at hv
   cases hv
   exact same (ts' := ts.tail) rfl
end
end AX
namespace AX
section
variable {P : Program} {ht : Hints}
structure Shut (lo : Nat) (w w' : World) : Prop where
 os : w'.os = w.os
 tape : w'.tape = w.tape
 output : w'.output = w.output
 size : w'.heap.size = w.heap.size
 at_ : ∀ b : Nat, w'.heap[b]? = w.heap[b]? ∨ (lo ≤ b ∧ (∃ ds, w.heap[b]? = some (.deferred ds)) ∧ ∃ ds, w'.heap[b]? = some (.deferred ds))
theorem Shut.refl (lo : Nat) (w : World) : Shut lo w w := ⟨rfl, rfl, rfl, rfl, fun _ => .inl rfl⟩
theorem Shut.put {lo : Nat} {w w0 : World} (h : Shut lo w0 w) {D : Nat} (hlo : lo ≤ D) {ds : Option (List Deferred)} (hD : w.heap[D]? = some (.deferred ds)) : Shut lo w0 (w.putObj D (.deferred none)) := by
 have hlt := (Array.getElem?_eq_some_iff.1 hD).1
 refine ⟨h.os, h.tape, h.output, by rw [← h.size]; simp [World.putObj], fun b => ?_⟩
 by_cases hb : b = D
 ·subst hb
  refine .inr ⟨hlo, ?_, none, World.putObj_heap_same hlt⟩
  rcases h.at_ b with h1 | ⟨_, h1, _⟩
  ·exact ⟨ds, h1 ▸ hD⟩
  ·exact h1
 ·have e : (w.putObj D (.deferred none)).heap[b]? = w.heap[b]? := World.putObj_heap_other hb
  rw [e]
  exact h.at_ b
theorem Shut.le {lo : Nat} {w w' : World} (h : Shut lo w w') (C : Ctx) : Le C w C w' := ⟨(fun _ _ h => h), fun _ _ h => h, rfl, fun _ h => h, fun a _ => by
 rcases h.at_ a.block with h1 | ⟨_, ⟨d1, h1⟩, d2, h2⟩
 ·exact cell_of_block h1
 ·simp [World.cell?, h1, h2]⟩
theorem Shut.heap {lo : Nat} {w w' : World} {C : Ctx} {h : Id → Option Obj} (hw : Shut lo w w') (hs : HSim C h w) : HSim C h w' := by
 refine ⟨fun id o ho => ?_, hs.inj, hs.sep, fun b hb => by rw [hw.size]; exact hs.live b hb⟩
 obtain ⟨l, h1, h2⟩ := hs.obj id o ho
 refine ⟨l, h1, h2.mono (hw.le C) fun b hb => ?_⟩
 rcases hw.at_ b with h3 | ⟨_, ⟨d, h3⟩, _⟩
 ·exact h3
 ·exact absurd ⟨id, o, l, ho, h1, hb⟩ (not_own_mark hs h3 (fun _ _ _ h => by cases h))
theorem Shut.ext {lo : Nat} {w w' w0 : World} {C C0 : Ctx} {h h0 : Id → Option Obj} (hw : Shut lo w w') (he : Ext C0 h0 w0 C h w) (hlo : w0.heap.size ≤ lo) : Ext C0 h0 w0 C h w' :=
 ⟨he.gh, hw.os.trans he.os, hw.tape.trans he.tape, hw.output.trans he.output, by rw [hw.size]; exact he.size, he.m, he.τ, he.ok, he.okb, fun b hb hn => by
  rcases hw.at_ b with h3 | ⟨h3, _⟩
  ·exact h3.trans (he.frame b hb hn)
  ·omega, he.own'⟩
theorem leaves_marks {F : Fence} {n : Nat} {fn : Func} {tmps : Array Value} {R : Ending → World → Prop} {lo : Nat} {w0 : World} : ∀ (ds : List Deferred) (w : World), Shut lo w0 w → Marks lo ds w →
  (∀ w', Shut lo w0 w' → ∃ v, (results fn tmps).run P w' = .ok v w' ∧ R (.returned v) w') → LeavesInM F n P fn tmps R ds .returning w
 | [], w, hw, hm, h => by
  rw [LeavesInM]
  exact h w hw
 | d :: ds, w, hw, hm, h => by
  obtain ⟨hnd, hm⟩ := hm
  obtain ⟨D, rfl, hlo, hD⟩ := hm d List.mem_cons_self
  rw [LeavesInM]
  refine ⟨fun h => (by cases h), .inl ⟨D, _, rfl, run_takeDeferred hD, ?_⟩⟩
  refine leaves_marks ds _ (hw.put hlo hD) ⟨(List.nodup_cons.1 hnd).2, fun d' hd' => ?_⟩ h
  obtain ⟨D', h1, h2, h3⟩ := hm d' (List.mem_cons_of_mem _ hd')
  have hne : D' ≠ D := fun e => by
   subst e
   exact (List.nodup_cons.1 hnd).1 (h1 ▸ hd')
  exact ⟨D', h1, h2, (World.putObj_heap_other hne).trans h3⟩
def Ctx.from (C : Ctx) (n : Nat) : Ctx := { C with gh := ⟨n, C.gh.y⟩ }
theorem le_lo {C C' : Ctx} {w : World} (hm : C'.m = C.m) (ht : C'.τ = C.τ) (ho : C'.ok = C.ok) (hy : ∀ m g, C.gh.y m = some g → C'.gh.y m = some g) : Le C w C' w := ⟨hy, fun id l h => by rw [hm]; exact h, ht, fun b h => by rw [ho]; exact h, fun _ _ => rfl⟩
theorem HSim.lo {C C' : Ctx} {h : Id → Option Obj} {w : World} (hs : HSim C h w) (hm : C'.m = C.m) (ht : C'.τ = C.τ) (ho : C'.ok = C.ok) (hy : ∀ m g, C.gh.y m = some g → C'.gh.y m = some g) : HSim C' h w := by
 have hrd : ∀ b, C'.rd b → C.rd b := fun b hb => by
  unfold Ctx.rd at hb ⊢
  rw [ht, ho] at hb
  exact hb
 refine ⟨fun id o hi => ?_, fun id id' o o' l l' b h1 h2 h3 h4 => hs.inj id id' o o' l l' b h1 h2 (hm ▸ h3) (hm ▸ h4), fun id o l b h1 h2 h3 h4 => hs.sep id o l b h1 (hm ▸ h2) h3 (hrd b h4), fun b hb => hs.live b (hrd b hb)⟩
 obtain ⟨l, h1, h2⟩ := hs.obj id o hi
 exact ⟨l, by rw [hm]; exact h1, h2.mono (le_lo hm ht ho hy) (fun _ _ => rfl)⟩
theorem funK_step (hn : NoNum P) {d : Nat} (hd : CallKOk P ht d) (hdr : DrawSound P (callfOf P (callK P ht d))) : FunKOk P ht (d + 1) := by
 intro f args h k C w vals hlt hc hargs hs hb hrec
 rw [callK_succ, callS_fun hlt, funS] at hc
 split at hc
 ·rename_i fn hfn
  split at hc
  ·rename_i c hbody
   refine callsIn_wide.1 (callsIn_of_wp_marks (F := Fence.wide) (n := 0) hfn hbody trivial ?_)
   have hargs := RepL_mono (le_lo (w := w) (C := C) (C' := C.from w.heap.size) rfl rfl rfl (fun _ _ h => h)) _ _ hargs
   have hlen : vals.size = args.length := by have := RepL_len hargs; simpa using this
   have hsim : Sim P (C.from w.heap.size) (fun _ => False) ⟨args ++ List.replicate (fn.ntmps - args.length) .undef, h, 2⟩ { tmps := vals ++ Array.replicate (fn.ntmps - vals.size) undef, defers := [] } w := by
    refine ⟨⟨by simp [hlen], fun t x v hx hv => ?_⟩, hs.lo rfl rfl rfl (fun _ _ h => h), fun id l hl => ?_, marks_nil _ _, hrec⟩
    ·by_cases htl : t < args.length
     ·rw [List.getElem?_append_left htl] at hx
      rw [Array.getElem?_append_left (by omega)] at hv
      obtain ⟨u, h1, h2⟩ := RepL_get hargs hx
      rw [Array.getElem?_toList, hv] at h1
      cases h1
      exact h2
     ·rw [List.getElem?_append_right (by omega), List.getElem?_replicate] at hx
      rw [Array.getElem?_append_right (by omega), Array.getElem?_replicate] at hv
      split at hx
      ·cases hx
       split at hv
       ·cases hv; exact RepA_undef.2 rfl
       ·cases hv
      ·cases hx
    ·have hp := hb id l hl
     unfold isParam at hp
     split at hp
     ·rename_i r; exact ⟨0, r, rfl, .inl (by decide : (0 : Nat) < 2)⟩
     ·cases hp
   refine execK_ok (rd := none) (callSound_of hn hd) hdr (C0 := C.from w.heap.size) hb (Nat.le_refl w.heap.size) (fun _ => rfl) c 0 _ _ (C.from w.heap.size) _ w _ (fun _ p hp => by rw [rfsAt, hfn]; simp only [hbody]; exact hp) hc hsim (Ext.refl _ _ _) fun e st C1 a1 w1 hk hs1 he1 => ?_
   have fin : leave P fn k .normal st = some true → LeavesInM Fence.wide 0 P fn a1.tmps (fun r w' => ∃ v res h' C', r = .returned v ∧ k res h' = some true ∧ RepA C' w' res v ∧ HSim C' (hget h') w' ∧ Ext C (hget h) w C' (hget h') w') a1.defers .returning w1 := by
    intro hk
    unfold leave at hk
    simp only at hk
    split at hk
    ·rename_i rs hrs
     cases hvr : virtR P st st.hp 0 rs fn.resultTypes.toList with
     | mk rs2 h2 =>
      rw [hvr] at hk
      simp only at hk
      have hmk := hs1.defers
      rw [he1.gh] at hmk
      refine leaves_marks (lo := w.heap.size) (w0 := w1) _ _ (Shut.refl _ _) hmk.1 fun w2 hsh => ?_
      have he1 := hsh.ext he1 (Nat.le_refl _)
      have hs2 := hsh.heap hs1.heap
      obtain ⟨vs, h3, h4⟩ := results_ok (hs1.slots.mono (hsh.le _)) hs2 hrs
      obtain ⟨C2, h5, h6, h7, _⟩ := virtR_ok hvr hs2 (fun j r _ => hs1.newId (fun h => h) r) h4 he1
      have h7' := Ext.ren (C0 := C.from w.heap.size) hb h7 (liveH h2 rs2)
      have h5' := HSim.ren h5 (liveH h2 rs2)
      have hy : C.gh.y = (C2.ren (liveH h2 rs2)).gh.y := (congrArg Ghost.y h7'.gh).symm
      refine ⟨_, h3, _, _, _, { C2.ren (liveH h2 rs2) with gh := C.gh }, rfl, hk, RepA_mono (le_lo (C := C2.ren (liveH h2 rs2)) (C' := { C2.ren (liveH h2 rs2) with gh := C.gh }) rfl rfl rfl (fun _ _ h => hy ▸ h)) _ _ ?_, h5'.lo rfl rfl rfl (fun _ _ h => hy ▸ h), ⟨rfl, h7'.os, h7'.tape, h7'.output, h7'.size, h7'.m, h7'.τ, h7'.ok, h7'.okb, h7'.frame, h7'.own'⟩⟩
      have h8 := mapL_rep (f := renum (liveH h2 rs2)) (C' := C2.ren (liveH h2 rs2)) (fun _ _ h => ren_m h) rfl rfl rfl rs2 vs h6
      generalize mapL (renum (liveH h2 rs2)) rs2 = rs3 at h8
      cases rs3 with
      | nil =>
       rw [RepL_nil] at h8
       subst h8
       exact RepA_tup.2 ⟨#[], rfl, RepL_nil.2 rfl⟩
      | cons x r =>
       obtain ⟨u, q, rfl, h9, h10⟩ := RepL_cons.1 h8
       cases r with
       | nil =>
        rw [RepL_nil] at h10
        subst h10
        exact h9
       | cons y r =>
        obtain ⟨u2, q2, rfl, h11, h12⟩ := RepL_cons.1 h10
        exact RepA_tup.2 ⟨(u :: u2 :: q2).toArray, rfl, by simpa using h8⟩
    ·cases hk
   cases e with
   | normal => exact fin hk
   | ret => exact fin hk
   | exit id => cases hk
  ·cases hc
 ·cases hc
theorem Slots.params {C : Ctx} {w : World} : ∀ {ps : List Tmp} {xs : List AV} {vs : List Value} {sl : List AV} {a : Act}, xs.length = vs.length → Slots C w sl a → RepL C w xs vs → Slots C w (setPs ps xs sl) { a with tmps := (ps.zip vs).foldl (fun t (p : Tmp × Value) => t.setIfInBounds p.1 p.2) a.tmps }
 | [], xs, vs, sl, a, _, hs, _ => by cases xs <;> exact hs
 | p :: ps, [], [], sl, a, _, hs, _ => hs
 | p :: ps, [], v :: vs, sl, a, hl, _, _ => by cases hl
 | p :: ps, x :: xs, [], sl, a, hl, _, _ => by cases hl
 | p :: ps, x :: xs, v :: vs, sl, a, hl, hs, hx => by
  obtain ⟨u, q, h0, h1, h2⟩ := RepL_cons.1 hx
  cases h0
  exact Slots.params (a := a.put (some p) v) (by simpa using hl) (hs.put p h1) h2
theorem Slots.rest {C : Ctx} {w : World} {args : List AV} {vs : List Value} {a : Act} (h : RepL C w args (vs ++ a.tmps.toList)) : Slots C w (args.drop vs.length) a ∧ RepL C w (args.take vs.length) vs := by
 have hl := RepL_len h
 rw [List.length_append] at hl
 have hl2 : a.tmps.toList.length = a.tmps.size := Array.length_toList
 refine ⟨⟨by rw [List.length_drop]; omega, fun t x v h1 h2 => ?_⟩, RepL_of (by rw [List.length_take, Nat.min_eq_left (by omega)]) fun i x v h1 h2 => ?_⟩
 ·rw [List.getElem?_drop] at h1
  obtain ⟨u, h3, h4⟩ := RepL_get h h1
  rw [List.getElem?_append_right (by omega), Nat.add_sub_cancel_left, Array.getElem?_toList, h2] at h3
  cases h3
  exact h4
 ·have hi : i < vs.length := (List.getElem?_eq_some_iff.1 h2).1
  rw [List.getElem?_take_of_lt hi] at h1
  obtain ⟨u, h3, h4⟩ := RepL_get h h1
  rw [List.getElem?_append_left hi, h2] at h3
  cases h3
  exact h4
theorem paramsIn_list (g : GY) (vals : Array Value) : paramsIn g vals = (g.r.params.toList.zip vals.toList).foldl (fun t (p : Tmp × Value) => t.setIfInBounds p.1 p.2) g.r.tmps := by
 unfold paramsIn
 rw [← Array.foldl_toList, Array.toList_zip]
theorem Ext.both {C C' : Ctx} {h h' : Id → Option Obj} {w w' : World} {l : Nat} (ob : Go.Obj) (hl : l < w.heap.size) (he : Ext C h w C' h' w') : Ext C h (w.putObj l ob) C' h' (w'.putObj l ob) := by
 have hsz := he.size
 refine ⟨he.gh, he.os, he.tape, he.output, by rw [World.putObj_size, World.putObj_size]; exact he.size, he.m, he.τ, he.ok, fun b hb => by rw [World.putObj_size]; exact he.okb b hb, fun b hb hn => ?_, fun b hb => by rw [World.putObj_size]; exact he.own' b hb⟩
 rw [World.putObj_size] at hb
 by_cases hbl : b = l
 ·subst hbl
  rw [World.putObj_heap_same (by omega), World.putObj_heap_same hb]
 ·rw [World.putObj_heap_other hbl, World.putObj_heap_other hbl, he.frame b hb hn]
theorem roundK_step {d : Nat} (hcs : CallSound P (callfOf P (callK P ht d))) (hdr : DrawSound P (callfOf P (callK P ht d))) : RoundKOk P ht (d + 1) := by
 intro key g args h k C w vals hy hc hargs hsz hs hb hrec hlA hlH rd
 rw [callK_succ, callS_round, roundS] at hc
 obtain ⟨r1, r2, r3, r4⟩ := hrec.1 key g hy
 rw [r4] at hc
 simp only at hc
 rw [execK] at hc
 have hlt := (Array.getElem?_eq_some_iff.1 r1).1
 generalize hC : (C.cut (key % BLOCKS)).from w.heap.size = C1
 have hCy : ∀ {k g}, C1.gh.y k = some g ↔ k % BLOCKS < key % BLOCKS ∧ C.gh.y k = some g := by rw [← hC]; exact cut_y
 have hlow : LowY (key % BLOCKS) C C1 := by rw [← hC]; exact cut_low
 have hb1 : Base C1 := by rw [← hC]; exact hb
 have hlo1 : C1.gh.lo = w.heap.size := by rw [← hC]; rfl
 have hs1 : HSim C1 (hget h) w := HSim.low hlow hlH hs
 have hno : ∀ {r : Loop} {u : World}, HSim C1 (hget h) u → u.heap[g.l]? = some (.loop r) → ¬ own C1 (hget h) g.l := fun hu hr => not_own_mark hu hr (fun _ _ _ h => by cases h)
 have hrec1 : ∀ {u : World}, (∀ b : Nat, b ≠ g.l → u.heap[b]? = w.heap[b]?) → Recs P C1.gh.y u := fun hu => ⟨fun k g' hk => by
  obtain ⟨h1, h2⟩ := hCy.1 hk
  obtain ⟨h3, h4⟩ := hrec.1 k g' h2
  exact ⟨(hu _ (hrec.2 k g' key g h2 hy h1)).trans h3, h4⟩, fun k g1 k' g1' h1 h2 => hrec.2 k g1 k' g1' (hCy.1 h1).2 (hCy.1 h2).2⟩
 obtain ⟨hrest, hpar⟩ := Slots.rest (a := { tmps := g.r.tmps, defers := [] }) (vs := vals.toList) (RepL_low hlow _ _ hlA hargs)
 have hsl : Slots C1 w (slotsR ⟨g.r.params, g.r.assign, g.r.body⟩ args) { tmps := paramsIn g vals, defers := [] } := by
  have := Slots.params (ps := g.r.params.toList) (RepL_len hpar).symm hrest hpar
  rw [Array.length_toList, hsz] at this
  rw [paramsIn_list]
  exact this
 have hnf : ∀ {p : Prop}, RND + key / BLOCKS < RND → p := fun h => absurd (Nat.lt_of_le_of_lt (Nat.le_add_right _ _) h) (Nat.lt_irrefl _)
 refine roundIn_of_wpIn trivial (execK_ok (rd := some g.l) hcs hdr (C0 := C1) (h0 := hget h) (w0 := w) hb1 (by rw [hlo1]; exact Nat.le_refl _) (fun h => hnf h) g.r.assign 0 _ _ C1 _ w _ (fun h => hnf h) hc ⟨hsl, hs1, fun id l hl => ?_, marks_nil _ _, hrec1 fun _ _ => rfl⟩ (Ext.refl _ _ _) fun e st1 C2 a1 w1 hk hs2 he2 => ?_)
 ·have hp := hb1 id l hl
  unfold isParam at hp
  split at hp
  ·rename_i r; exact ⟨0, r, rfl, .inl (by decide : (0 : Nat) < 2)⟩
  ·cases hp
 cases e with
 | exit id => cases hk
 | ret => cases hk
 | normal =>
  simp only at hk
  have q1 : w1.heap[g.l]? = some (.loop g.r) := (he2.frame g.l hlt (hno hs1 r1)).trans r1
  have qlt := (Array.getElem?_eq_some_iff.1 q1).1
  refine ⟨_, run_beginRound q1 r2, ?_⟩
  generalize hbz : ({ g.r with state := .busy } : Loop) = rb
  have he3 := he2.both (.loop rb) hlt
  have hs3 : HSim C1 (hget h) (w.putObj g.l (.loop rb)) := HSim.putLoop hs1 r1
  have hmk : Marks C2.gh.lo a1.defers (w1.putObj g.l (.loop rb)) := ⟨hs2.defers.1.1, fun d hd => by
   obtain ⟨D, h1, h2, h3⟩ := hs2.defers.1.2 d hd
   refine ⟨D, h1, h2, (World.putObj_heap_other fun e => ?_).trans h3⟩
   subst e
   rw [q1] at h3
   cases h3⟩
  have hr3 : Recs P C2.gh.y (w1.putObj g.l (.loop rb)) := by
   rw [he2.gh]
   exact (hrec1 (u := w.putObj g.l (.loop rb)) fun b hb => World.putObj_heap_other hb).ext hs3 he3
  refine execK_ok (rd := some g.l) hcs hdr (C0 := C1) (h0 := hget h) (w0 := w.putObj g.l (.loop rb)) hb1 (by rw [hlo1, World.putObj_size]; exact Nat.le_refl _) (fun h => hnf h) g.r.body 0 _ _ C2 _ _ _ (fun h => hnf h) hk ⟨hs2.slots.mono (le_putLoop q1 C2), HSim.putLoop hs2.heap q1, hs2.fresh, hmk, hr3⟩ he3 fun e st2 C3 a2 w3 hk hs4 he4 => ?_
  cases e with
  | exit id => cases hk
  | ret => cases hk
  | normal =>
   replace hk : handR k (plan P (ht (RND + key / BLOCKS) ATRET) st2).hp = some true := hk
   have z1 : w3.heap[g.l]? = some (.loop rb) := (he4.frame g.l (by rw [World.putObj_size]; exact hlt) (hno hs1 r1)).trans (World.putObj_heap_same hlt)
   obtain ⟨C3, hs4, he4⟩ := plan_ok (P := P) hb1 hs4 he4 (ht (RND + key / BLOCKS) ATRET)
   generalize plan P (ht (RND + key / BLOCKS) ATRET) st2 = st2 at hk hs4 he4
   unfold handR at hk
   have hback : ({ rb with state := if (none : Option Code).isNone then .ready else .done, pending := none } : Loop) = g.r := by
    rw [← hbz]
    obtain ⟨l, r⟩ := g
    cases r
    simp only at r2 r3
    subst r2
    subst r3
    rfl
   refine ⟨.bool true, w3.putObj g.l (.loop g.r), ?_, ?_⟩
   ·have := run_endRound (P := P) none z1
    rw [hback] at this
    exact this
   ·have he5 := Ext.round r1 he4
    have hs5 : HSim C3 (hget st2.hp) (w3.putObj g.l (.loop g.r)) := HSim.putLoop hs4.heap z1
    have he6 := Ext.ren (C0 := C1) hb1 he5 (liveH st2.hp [])
    have hs6 := HSim.ren hs5 (liveH st2.hp [])
    have hyy : ∀ k g, (C3.ren (liveH st2.hp [])).gh.y k = some g → C.gh.y k = some g := fun k g' hk => by
     rw [he6.gh] at hk
     exact (hCy.1 hk).2
    refine ⟨_, _, _, { C3.ren (liveH st2.hp []) with gh := C.gh }, rfl, hk, RepA_bool.2 rfl, HSim.lo hs6 rfl rfl rfl hyy, ?_⟩
    have hm := he6.m
    have hτ := he6.τ
    have hok := he6.ok
    have hokb := he6.okb
    have hfr := he6.frame
    have hown := he6.own'
    rw [← hC] at hm hτ hok hokb hfr hown
    exact ⟨rfl, he6.os, he6.tape, he6.output, he6.size, hm, hτ, hok, hokb, hfr, hown⟩
theorem callK_step (hn : NoNum P) {d : Nat} (hd : CallKOk P ht d) (hdr : DrawSound P (callfOf P (callK P ht d))) : CallKOk P ht (d + 1) := ⟨funK_step hn hd hdr, roundK_step (callSound_of hn hd) hdr⟩
end
end AX
namespace AX
def Agree (h h' : Heap) (l : List Id) : Prop := ∀ i ∈ l, hget h i = hget h' i
theorem Agree.sub {h h' : Heap} {l l' : List Id} (ha : Agree h h' l) (hs : ∀ i ∈ l', i ∈ l) : Agree h h' l' := fun i hi => ha i (hs i hi)
theorem Agree.symm {h h' : Heap} {l : List Id} (ha : Agree h h' l) : Agree h' h l := fun i hi => (ha i hi).symm
section
variable {P : Program} {h h' : Heap} {me : Id} {sl sl' : List AV} {o : Oper} {all : Array Oper}
theorem lenA_loc {x : AV} (ha : Agree h h' (idsA x)) : lenA h x = lenA h' x := by
 cases x <;> first | rfl | (rename_i y; obtain ⟨t, z⟩ := y; cases t <;> rfl) | (simp only [lenA]; rw [ha _ (by simp [idsA])])
theorem rowTo_loc {ty : Ty} {x : AV} (ha : Agree h h' (idsA x)) : rowTo h ty x = rowTo h' ty x := by
 cases x <;> first | rfl | (rename_i y; obtain ⟨t, z⟩ := y; cases t <;> rfl) | (simp only [rowTo]; rw [ha _ (by simp [idsA])])
theorem rowA_loc {x : AV} (ha : Agree h h' (idsA x)) : rowA h x = rowA h' x := by
 cases x <;> first | rfl | (rename_i y; obtain ⟨t, z⟩ := y; cases t <;> rfl) | (simp only [rowA]; rw [ha _ (by simp [idsA])]) | (rename_i t _ _ _; cases t <;> rfl)
theorem rowOk_loc {g : Nat} {x : AV} (ha : Agree h h' (idsA x)) : rowOk h g x = rowOk h' g x := by
 cases x <;> first | rfl | (rename_i y; obtain ⟨t, z⟩ := y; cases t <;> rfl) | (simp only [rowOk]; rw [ha _ (by simp [idsA])])
theorem cutG_loc {g : Nat} {x : AV} (ha : Agree h h' (idsA x)) : cutG h g x = cutG h' g x := by
 cases x <;> first | rfl | (rename_i y; obtain ⟨t, z⟩ := y; cases t <;> rfl) | (simp only [cutG]; rw [ha _ (by simp [idsA])])
theorem cutA_loc {x : AV} {lo len : Nat} {b : Bool} (ha : Agree h h' (idsA x)) : cutA h x lo len b = cutA h' x lo len b := by
 cases x <;> first | rfl | (rename_i y; obtain ⟨t, z⟩ := y; cases t <;> rfl) | (simp only [cutA]; rw [ha _ (by simp [idsA])])
theorem giveCell_loc {x : AV} (ha : Agree h h' (idsA x)) : giveCell h x = giveCell h' x := by
 cases x <;> first | rfl | (rename_i y; obtain ⟨t, z⟩ := y; cases t <;> rfl) | (simp only [giveCell]; rw [ha _ (by simp [idsA])])
theorem giveCells_loc : ∀ {xs : List AV}, Agree h h' (idsL xs) → giveCells h xs = giveCells h' xs
 | [], _ => rfl
 | x :: r, ha => by
  simp only [giveCells]
  rw [giveCell_loc (ha.sub fun i hi => by simp [idsL, hi]), giveCells_loc (xs := r) (ha.sub fun i hi => by simp [idsL, hi])]
theorem give_loc {x : AV} (ha : Agree h h' (idsA x)) : give h x = give h' x := by
 cases x
 case agg xs =>
  simp only [give]
  rw [giveCells_loc (by simpa [idsA] using ha)]
 all_goals
  simp only [give]
  exact giveCell_loc ha
theorem gives_loc : ∀ {xs : List AV}, Agree h h' (idsL xs) → gives h xs = gives h' xs
 | [], _ => rfl
 | x :: r, ha => by
  simp only [gives]
  rw [give_loc (ha.sub fun i hi => by simp [idsL, hi]), gives_loc (xs := r) (ha.sub fun i hi => by simp [idsL, hi])]
theorem appendD_loc {i : TypeInfo} {e : TypeId} {ty : Ty} {xs : List ty.T} {del : List Id} {x : AV} (ha : Agree h h' (idsA x)) : appendD i h me e ty xs del x = appendD i h' me e ty xs del x := by
 simp only [appendD]; rw [rowTo_loc ha]
theorem appendD0_loc {i : TypeInfo} {e : TypeId} {ty : Ty} {x : AV} (ha : Agree h h' (idsA x)) : appendD0 i h me e ty x = appendD0 i h' me e ty x := by
 simp only [appendD0]; rw [rowTo_loc ha]
theorem appendM_loc {i : TypeInfo} {e : TypeId} {xs : List AV} {del : List Id} {x : AV} (ha : Agree h h' (idsA x)) : appendM i h me e xs del x = appendM i h' me e xs del x := by
 simp only [appendM]; rw [rowA_loc ha, rowOk_loc ha]
theorem appendE_loc {t : TypeId} {s x : AV} (hs : Agree h h' (idsA s)) (hx : Agree h h' (idsA x)) : appendE P h me t s x = appendE P h' me t s x := by
 have e1 : ∀ i e ty xs del, appendD i h me e ty xs del x = appendD i h' me e ty xs del x := fun _ _ _ _ _ => appendD_loc hx
 have e2 : ∀ i e ty, appendD0 i h me e ty x = appendD0 i h' me e ty x := fun _ _ _ => appendD0_loc hx
 have e3 : ∀ i e xs del, appendM i h me e xs del x = appendM i h' me e xs del x := fun _ _ _ _ => appendM_loc hx
 cases s
 case ref id =>
  simp only [appendE, hs id (by simp [idsA]), e1, e2, e3]
 case cut id a b =>
  cases a <;> simp only [appendE, hs id (by simp [idsA]), e1, e2, e3]
 all_goals simp only [appendE, e1, e2, e3]
theorem appendZ_loc {t : TypeId} {s : AV} {n : Int} (hs : Agree h h' (idsA s)) : appendZ P h me t s n = appendZ P h' me t s n := by
 cases s
 case ref id => simp only [appendZ, hs id (by simp [idsA])]
 all_goals simp only [appendZ]
theorem copyD_loc {z : Nat} {id : Id} {off len : Nat} {s : AV} (hd : hget h id = hget h' id) (hs : Agree h h' (idsA s)) : copyD h z id off len s = copyD h' z id off len s := by
 have e1 : ∀ ty, rowTo h ty s = rowTo h' ty s := fun _ => rowTo_loc hs
 simp only [copyD, hd, e1]
theorem copyE_loc {t : TypeId} {d s : AV} (hd : Agree h h' (idsA d)) (hs : Agree h h' (idsA s)) : copyE P h t d s = copyE P h' t d s := by
 cases d
 case ref id =>
  have e1 := hd id (by simp [idsA])
  have e2 : ∀ z off len, copyD h z id off len s = copyD h' z id off len s := fun _ _ _ => copyD_loc e1 hs
  simp only [copyE]
  cases elemOf? P t with
  | none => rfl
  | some e => cases hz : sizeOf? P e <;> simp only [hz, e1, e2]
 case cut id a b =>
  have e1 := hd id (by simp [idsA])
  have e2 : ∀ z off len, copyD h z id off len s = copyD h' z id off len s := fun _ _ _ => copyD_loc e1 hs
  simp only [copyE]
  cases elemOf? P t with
  | none => rfl
  | some e => cases hz : sizeOf? P e <;> simp only [hz, e2]
 all_goals
  simp only [copyE]
  cases elemOf? P t with
  | none => rfl
  | some e => cases hz : sizeOf? P e <;> simp only [hz] <;> first | rfl | (rename_i y _; obtain ⟨t, z⟩ := y; cases t <;> rfl)
theorem clearE_loc {t : TypeId} {d : AV} (hd : Agree h h' (idsA d)) : clearE P h t d = clearE P h' t d := by
 cases d
 case cut id a b => simp only [clearE, hd id (by simp [idsA])]
 all_goals simp only [clearE]
theorem builtinE_loc {b : Builtin} {ts : Array TypeId} {xs : List AV} (ha : Agree h h' (idsL xs)) : builtinE P h me b ts xs = builtinE P h' me b ts xs := by
 cases b
 case min => cases xs <;> rfl
 case max => cases xs <;> rfl
 case len =>
  cases xs with
  | nil => rfl
  | cons x r =>
   cases r with
   | nil => simp only [builtinE]; rw [lenA_loc (ha.sub fun i hi => by simp [idsL, hi])]
   | cons y r => rfl
 case append =>
  match xs, ha with
  | [], _ => rfl
  | [x], _ => rfl
  | [s, x], ha =>
   have e1 : ∀ t, appendE P h me t s x = appendE P h' me t s x := fun _ => appendE_loc (ha.sub fun i hi => by simp [idsL, hi]) (ha.sub fun i hi => by simp [idsL, hi])
   have e2 : ∀ t n, appendZ P h me t s n = appendZ P h' me t s n := fun _ _ => appendZ_loc (ha.sub fun i hi => by simp [idsL, hi])
   simp only [builtinE]
   split
   ·split <;> simp only [e1, e2]
   ·rfl
  | _ :: _ :: _ :: _, _ => rfl
 case copy =>
  match xs, ha with
  | [], _ => rfl
  | [x], _ => rfl
  | [d, s], ha =>
   have e1 : ∀ t, copyE P h t d s = copyE P h' t d s := fun _ => copyE_loc (ha.sub fun i hi => by simp [idsL, hi]) (ha.sub fun i hi => by simp [idsL, hi])
   simp only [builtinE, e1]
  | _ :: _ :: _ :: _, _ => rfl
 case clear =>
  match xs, ha with
  | [], _ => rfl
  | [d], ha =>
   have e1 : ∀ t, clearE P h t d = clearE P h' t d := fun _ => clearE_loc (ha.sub fun i hi => by simp [idsL, hi])
   simp only [builtinE, e1]
  | _ :: _ :: _, _ => rfl
 all_goals rfl
def Looks (all : Array Oper) (o : Oper) (sl sl' : List AV) : Prop := ∀ t ∈ o.looksAt all, sl.getD t .undef = sl'.getD t .undef
theorem Looks.eval (hl : Looks all o sl sl') {x : Operand} (hx : x ∈ o.op.operands.toList) : evalA sl x = evalA sl' x := by
 cases x <;> try rfl
 rename_i t
 refine hl t ?_
 unfold Oper.looksAt
 exact List.mem_append_left _ (List.mem_filterMap.2 ⟨_, hx, rfl⟩)
theorem idsL_mem {x : AV} {i : Id} (hi : i ∈ idsA x) : ∀ {xs : List AV}, x ∈ xs → i ∈ idsL xs
 | y :: r, hx => by
  rcases List.mem_cons.1 hx with rfl | hx
  ·simp [idsL, hi]
  ·simp [idsL, idsL_mem hi hx]
theorem idsL_inv {i : Id} : ∀ {xs : List AV}, i ∈ idsL xs → ∃ x ∈ xs, i ∈ idsA x
 | [], hi => by cases hi
 | y :: r, hi => by
  rw [idsL] at hi
  rcases List.mem_append.1 hi with h1 | h1
  ·exact ⟨y, List.mem_cons_self, h1⟩
  ·obtain ⟨x, h2, h3⟩ := idsL_inv h1
   exact ⟨x, List.mem_cons_of_mem _ h2, h3⟩
theorem map_loc (hl : Looks all o sl sl') {l : List Operand} (hs : ∀ x ∈ l, x ∈ o.op.operands.toList) : l.map (evalA sl) = l.map (evalA sl') := List.map_congr_left fun x hx => hl.eval (hs x hx)
theorem partsOf_loc (hl : Looks all o sl sl') {ps : List (Nat × Operand)} (hs : ∀ p ∈ ps, p.2 ∈ o.op.operands.toList) : partsOf sl ps = partsOf sl' ps := List.map_congr_left fun p hp => by rw [hl.eval (hs p hp)]
theorem footE_mem {x : Operand} (hx : x ∈ o.op.operands.toList) {i : Id} (hi : i ∈ idsA (evalA sl x)) : i ∈ o.op.operands.toList.flatMap fun x => idsA (evalA sl x) := List.mem_flatMap.2 ⟨x, hx, hi⟩
theorem footE_loc (hl : Looks all o sl sl') : footE sl o = footE sl' o := by
 have e : (o.op.operands.toList.flatMap fun x => idsA (evalA sl x)) = o.op.operands.toList.flatMap fun x => idsA (evalA sl' x) := by
  rw [List.flatMap_def, List.flatMap_def]
  exact congrArg List.flatten (List.map_congr_left fun x hx => by rw [hl.eval hx])
 unfold footE
 split <;> first | exact e | rfl
theorem stepE_loc (hl : Looks all o sl sl') (ha : Agree h h' (footE sl o)) : stepE P sl h me o = stepE P sl' h' me o := by
 have ev : ∀ {x : Operand}, x ∈ o.op.operands.toList → evalA sl x = evalA sl' x := fun hx => hl.eval hx
 cases ho : o.op
 case move x => simp only [stepE, ho, ev (x := x) (by simp [ho, Op.operands])]
 case assign x => simp only [stepE, ho, ev (x := x) (by simp [ho, Op.operands])]
 case box t x => simp only [stepE, ho, ev (x := x) (by simp [ho, Op.operands])]
 case nilCheck x => simp only [stepE, ho, ev (x := x) (by simp [ho, Op.operands])]
 case unOp op t x => simp only [stepE, ho, ev (x := x) (by simp [ho, Op.operands])]
 case fieldAddr t x f => simp only [stepE, ho, ev (x := x) (by simp [ho, Op.operands])]
 case field t x f => simp only [stepE, ho, ev (x := x) (by simp [ho, Op.operands])]
 case extract x i => simp only [stepE, ho, ev (x := x) (by simp [ho, Op.operands])]
 case binOp op t x y r => simp only [stepE, ho, ev (x := x) (by simp [ho, Op.operands]), ev (x := y) (by simp [ho, Op.operands])]
 case makeSlice t x y => simp only [stepE, ho, ev (x := x) (by simp [ho, Op.operands]), ev (x := y) (by simp [ho, Op.operands])]
 case index t x y => simp only [stepE, ho, ev (x := x) (by simp [ho, Op.operands]), ev (x := y) (by simp [ho, Op.operands])]
 case build t ps => simp only [stepE, ho, partsOf_loc hl (ps := ps.toList) (fun p hp => by simp only [ho, Op.operands]; simpa using ⟨p.1, by simpa using hp⟩)]
 case makeFunc f x y =>
  simp only [stepE, ho]
  rw [map_loc hl (l := x.toList) (fun z hz => by simp only [ho, Op.operands, Array.toList_append]; exact List.mem_append_left _ hz), map_loc hl (l := y.toList) (fun z hz => by simp only [ho, Op.operands, Array.toList_append]; exact List.mem_append_right _ hz)]
 case buildSlice t n ps =>
  have e1 := partsOf_loc hl (ps := ps.toList) (fun p hp => by simp only [ho, Op.operands]; simpa using ⟨p.1, by simpa using hp⟩)
  have e2 : gives h ((partsOf sl' ps.toList).map (·.2)) = gives h' ((partsOf sl' ps.toList).map (·.2)) := by
   rw [← e1]
   refine gives_loc fun i hi => ha i ?_
   obtain ⟨x, h1, h2⟩ := idsL_inv hi
   simp only [partsOf, List.map_map, List.mem_map, Function.comp] at h1
   obtain ⟨p, hp, rfl⟩ := h1
   unfold footE
   simp only [ho]
   exact List.mem_flatMap.2 ⟨p.2, by simp only [Op.operands]; simpa using ⟨p.1, by simpa using hp⟩, h2⟩
  simp only [stepE, ho, e1, e2]
 case load t x =>
  have e1 := ev (x := x) (by simp [ho, Op.operands])
  have ha' : Agree h h' (idsA (evalA sl' x)) := by rw [← e1]; refine ha.sub fun i hi => ?_; unfold footE; simp only [ho]; exact List.mem_flatMap.2 ⟨x, by simp [Op.operands], hi⟩
  simp only [stepE, ho, e1]
  cases he : evalA sl' x
  case ptr id i off => rw [he] at ha'; simp only [ha' id (by simp [idsA])]
  all_goals rfl
 case store t x y =>
  have e1 := ev (x := x) (by simp [ho, Op.operands])
  have e2 := ev (x := y) (by simp [ho, Op.operands])
  have ha' : Agree h h' (idsA (evalA sl' x)) := by rw [← e1]; refine ha.sub fun i hi => ?_; unfold footE; simp only [ho]; exact List.mem_flatMap.2 ⟨x, by simp [Op.operands], hi⟩
  simp only [stepE, ho, e1, e2]
  generalize evalA sl' x = v at ha' ⊢
  generalize sizeOf? P t = q
  cases v
  case ptr id i off => cases q <;> simp only [ha' id (by simp [idsA])]
  all_goals (cases q <;> rfl)
 case convert s t x =>
  have e1 := ev (x := x) (by simp [ho, Op.operands])
  have ha' : Agree h h' (idsA (evalA sl' x)) := by rw [← e1]; refine ha.sub fun i hi => ?_; unfold footE; simp only [ho]; exact List.mem_flatMap.2 ⟨x, by simp [Op.operands], hi⟩
  have c1 : ∀ ty, rowTo h ty (evalA sl' x) = rowTo h' ty (evalA sl' x) := fun _ => rowTo_loc ha'
  have c4 : ∀ id, evalA sl' x = .ref id → hget h id = hget h' id := fun id he => ha' id (by rw [he]; simp [idsA])
  simp only [stepE, ho, e1]
  generalize evalA sl' x = v at c1 c4 ⊢
  split
  ·rfl
  ·rfl
  ·simp only [c1]
  ·rfl
  ·split
   ·simp only [c4 _ rfl]
   ·rfl
  ·rfl
 case indexAddr t x y =>
  have e1 := ev (x := x) (by simp [ho, Op.operands])
  have e2 := ev (x := y) (by simp [ho, Op.operands])
  have ha' : Agree h h' (idsA (evalA sl' x)) := by rw [← e1]; refine ha.sub fun i hi => ?_; unfold footE; simp only [ho]; exact List.mem_flatMap.2 ⟨x, by simp [Op.operands], hi⟩
  have c4 : ∀ id i off, evalA sl' x = .ptr id i off → hget h id = hget h' id := fun id i off he => ha' id (by rw [he]; simp [idsA])
  have c5 : ∀ id, evalA sl' x = .ref id → hget h id = hget h' id := fun id he => ha' id (by rw [he]; simp [idsA])
  have c6 : ∀ id i off, evalA sl' x = .cut id i off → hget h id = hget h' id := fun id i off he => ha' id (by rw [he]; simp [idsA])
  simp only [stepE, ho, e1, e2]
  generalize evalA sl' x = v at c4 c5 c6 ⊢
  cases idx (evalA sl' y) with
  | none => rfl
  | some j =>
   simp only
   split
   ·split
    ·simp only [c5 _ rfl]
    ·simp only [c6 _ _ _ rfl]
    ·rfl
    ·rfl
    ·rfl
   ·split
    ·simp only [c4 _ _ _ rfl]
    ·rfl
   ·rfl
 case slice t x lo hi mx =>
  have e1 := ev (x := x) (by simp [ho, Op.operands])
  have el : lo.map (evalA sl) = lo.map (evalA sl') := by
   cases lo with
   | none => rfl
   | some y => simp only [Option.map_some]; rw [ev (x := y) (by simp [ho, Op.operands])]
  have eh : hi.map (evalA sl) = hi.map (evalA sl') := by
   cases hi with
   | none => rfl
   | some y => simp only [Option.map_some]; rw [ev (x := y) (by simp [ho, Op.operands])]
  have em : mx.map (evalA sl) = mx.map (evalA sl') := by
   cases mx with
   | none => rfl
   | some y => simp only [Option.map_some]; rw [ev (x := y) (by simp [ho, Op.operands])]
  have ha' : Agree h h' (idsA (evalA sl' x)) := by rw [← e1]; refine ha.sub fun i hi => ?_; unfold footE; simp only [ho]; exact List.mem_flatMap.2 ⟨x, by simp [Op.operands], hi⟩
  have c1 : ∀ g, cutG h g (evalA sl' x) = cutG h' g (evalA sl' x) := fun _ => cutG_loc ha'
  have c2 : ∀ lo len b, cutA h (evalA sl' x) lo len b = cutA h' (evalA sl' x) lo len b := fun _ _ _ => cutA_loc ha'
  have c3 := lenA_loc ha'
  have c4 : ∀ id a b, evalA sl' x = .ptr id a b → hget h id = hget h' id := fun id a b he => ha' id (by rw [he]; simp [idsA])
  have fin : ∀ lo hi mx : Option Operand, lo.map (evalA sl) = lo.map (evalA sl') → hi.map (evalA sl) = hi.map (evalA sl') → mx.map (evalA sl) = mx.map (evalA sl') → ∀ o' : Oper, o'.op = .slice t x lo hi mx → stepE P sl h me o' = stepE P sl' h' me o' := by
   intro lo hi mx el eh em o' ho'
   cases lo <;> cases hi <;> cases mx <;> simp only [Option.map_some, Option.map_none, Option.some.injEq] at el eh em <;> simp only [stepE, ho', e1, el, eh, em] <;> generalize evalA sl' x = v at c1 c2 c3 c4 ⊢ <;> split <;>
    first
    | rfl
    | (rename_i n e id _; simp only [c4 id 0 0 rfl]; done)
    | (simp only [c1, c2, c3]; split <;> first | rfl | (rename_i n g _ _; cases cutG h' g _ <;> first | rfl | (simp only [eh, em]; done) | (simp only [eh]; done) | (simp only [em]; done)))
  exact fin lo hi mx el eh em o ho
 case call c =>
  obtain ⟨callee, xs, ts⟩ := c
  cases callee with
  | builtin b =>
   have e1 := map_loc hl (l := xs.toList) (fun z hz => by simp [ho, Op.operands, Call.operands]; simpa using hz)
   have ha' : Agree h h' (idsL (xs.toList.map (evalA sl'))) := by
    rw [← e1]
    intro i hi
    obtain ⟨x, h1, h2⟩ := idsL_inv hi
    obtain ⟨y, hy, rfl⟩ := List.mem_map.1 h1
    refine ha i ?_
    unfold footE
    simp only [ho]
    exact List.mem_flatMap.2 ⟨y, by simp [Op.operands, Call.operands]; simpa using hy, h2⟩
   simp only [stepE, ho]
   rw [e1]
   exact builtinE_loc ha'
  | value f => simp only [stepE, ho]
  | invoke r n => simp only [stepE, ho]
 all_goals simp only [stepE, ho]
end
end AX
namespace AX
section
variable {P : Program} {h h' : Heap} {ht : Hints}
theorem reachH_sub : ∀ {n : Nat} {l seen : List Id}, ∀ i ∈ seen, i ∈ reachH h n l seen
 | 0, l, seen, i, hi => by rw [reachH]; exact hi
 | n + 1, [], seen, i, hi => by rw [reachH]; exact hi
 | n + 1, j :: r, seen, i, hi => by
  rw [reachH]
  split
  ·exact reachH_sub i hi
  ·split
   ·exact reachH_sub i (List.mem_append_left _ hi)
   ·exact reachH_sub i hi
theorem reachH_loc : ∀ {n : Nat} {l seen : List Id}, Agree h h' (l ++ (reachH h n l seen).flatMap (idsAt h)) → reachH h n l seen = reachH h' n l seen
 | 0, l, seen, _ => by rw [reachH, reachH]
 | n + 1, [], seen, _ => by rw [reachH, reachH]
 | n + 1, j :: r, seen, ha => by
  have hj := ha j (by simp)
  rw [reachH, reachH, ← hj]
  rw [reachH] at ha
  split
  ·rename_i hm
   simp only [hm] at ha
   exact reachH_loc (ha.sub fun i hi => by
    rcases List.mem_append.1 hi with h1 | h1
    ·exact List.mem_append_left _ (List.mem_cons_of_mem _ h1)
    ·exact List.mem_append_right _ h1)
  ·rename_i hm
   simp only [hm] at ha
   split
   ·rename_i o ho
    simp only [ho] at ha
    refine reachH_loc (ha.sub fun i hi => ?_)
    rcases List.mem_append.1 hi with h1 | h1
    ·rcases List.mem_append.1 h1 with h2 | h2
     ·refine List.mem_append_right _ (List.mem_flatMap.2 ⟨j, reachH_sub j (by simp), ?_⟩)
      simp only [idsAt, ho]
      exact h2
     ·exact List.mem_append_left _ (List.mem_cons_of_mem _ h2)
    ·exact List.mem_append_right _ h1
   ·rename_i ho
    simp only [ho] at ha
    exact reachH_loc (ha.sub fun i hi => by
     rcases List.mem_append.1 hi with h1 | h1
     ·exact List.mem_append_left _ (List.mem_cons_of_mem _ h1)
     ·exact List.mem_append_right _ h1)
theorem mixIds_loc {all : Bool} : ∀ {xs : List AV}, Agree h h' (idsL xs) → mixIds all h xs = mixIds all h' xs
 | [], _ => rfl
 | x :: r, ha => by
  have ih := mixIds_loc (all := all) (xs := r) (ha.sub fun i hi => by simp [idsL, hi])
  cases x with
  | ref id => simp only [mixIds]; rw [ha id (by simp [idsL, idsA]), ih]
  | cut id a b => simp only [mixIds]; rw [ha id (by simp [idsL, idsA]), ih]
  | _ => simp only [mixIds]; exact ih
mutual
theorem inA_loc {ids : List Id} : ∀ {x : AV} {tags : List AV}, Agree h h' (idsA x) → inA h ids tags x = inA h' ids tags x
 | .ref id, tags, ha => by simp only [inA]; rw [ha id (by simp [idsA])]
 | .cut id a b, tags, ha => by simp only [inA]; rw [ha id (by simp [idsA])]
 | .ptr id a b, tags, ha => by simp only [inA]
 | .agg xs, tags, ha => by simp only [inA]; rw [inL_loc (xs := xs) (by simpa [idsA] using ha)]
 | .tup xs, tags, ha => by simp only [inA]; rw [inL_loc (xs := xs) (by simpa [idsA] using ha)]
 | .fn f x y, tags, ha => by
  have e1 := inL_loc (ids := ids) (xs := x) (tags := tags) (ha.sub fun i hi => by simp [idsA, hi])
  have e2 : ∀ t, inL h ids t y = inL h' ids t y := fun t => inL_loc (xs := y) (ha.sub fun i hi => by simp [idsA, hi])
  simp only [inA, e1, e2]
 | .d ⟨t, x⟩, tags, ha => by cases t <;> rfl
 | .bv t e ty xs, tags, ha => by cases t <;> rfl
 | .nils, tags, ha => rfl
 | .nilp, tags, ha => rfl
 | .nilf, tags, ha => rfl
 | .undef, tags, ha => rfl
 | .vptr x o, tags, ha => rfl
 | .nt a b, tags, ha => rfl
 | .top, tags, ha => rfl
theorem inL_loc {ids : List Id} : ∀ {xs : List AV} {tags : List AV}, Agree h h' (idsL xs) → inL h ids tags xs = inL h' ids tags xs
 | [], tags, ha => by simp only [inL]
 | x :: r, tags, ha => by
  have e1 := inA_loc (ids := ids) (x := x) (tags := tags) (ha.sub fun i hi => by simp [idsL, hi])
  have e2 : ∀ t, inL h ids t r = inL h' ids t r := fun t => inL_loc (xs := r) (ha.sub fun i hi => by simp [idsL, hi])
  simp only [inL, e1, e2]
end
theorem inHeap_loc {ids : List Id} : ∀ {l : List Id} {n : Nat} {t : List AV}, Agree h h' (l ++ l.flatMap (idsAt h)) → inHeap h ids n l t = inHeap h' ids n l t
 | [], n, t, _ => rfl
 | i :: r, n, t, ha => by
  have hi := ha i (by simp)
  have e2 : ∀ n t, inHeap h ids n r t = inHeap h' ids n r t := fun n t => inHeap_loc (ha.sub fun j hj => by
   rcases List.mem_append.1 hj with h1 | h1
   ·exact List.mem_append_left _ (List.mem_cons_of_mem _ h1)
   ·refine List.mem_append_right _ ?_
    rw [List.flatMap_cons]
    exact List.mem_append_right _ h1)
  simp only [inHeap, ← hi]
  cases ho : hget h i with
  | none => rfl
  | some o =>
   obtain ⟨e, g, el⟩ := o
   cases el with
   | data ty xs => simp only [e2]
   | mix xs =>
    have e3 : inL h ids t xs = inL h' ids t xs := inL_loc (ha.sub fun j hj => by
     refine List.mem_append_right _ ?_
     rw [List.flatMap_cons]
     refine List.mem_append_left _ ?_
     simp only [idsAt, ho, idsO]
     exact hj)
    simp only [e2, e3]
def footC (P : Program) (h : Heap) (g : AV) (xs : List AV) : List Id := match calleeOf P g xs with
 | some (f, ys, _) =>
  let ids := reachH h FUEL (ptrsL ys ++ mixIds (genF P f) h ys) []
  ids ++ (idsL ys ++ ids.flatMap (idsAt h))
 | none => []
mutual
theorem ptrsA_sub : ∀ {x : AV} {i : Id}, i ∈ ptrsA x → i ∈ idsA x
 | .ptr j a b, i, hi => by simpa [ptrsA, idsA] using hi
 | .agg xs, i, hi => by simp only [ptrsA, idsA] at hi ⊢; exact ptrsL_sub hi
 | .tup xs, i, hi => by simp only [ptrsA, idsA] at hi ⊢; exact ptrsL_sub hi
 | .fn f a b, i, hi => by
  simp only [ptrsA, idsA] at hi ⊢
  exact (List.mem_append.1 hi).elim (fun h => List.mem_append_left _ (ptrsL_sub h)) (fun h => List.mem_append_right _ (ptrsL_sub h))
 | .ref _, i, hi => by simp [ptrsA] at hi
 | .cut _ _ _, i, hi => by simp [ptrsA] at hi
 | .d _, i, hi => by simp [ptrsA] at hi
 | .bv _ _ _ _, i, hi => by simp [ptrsA] at hi
 | .nils, i, hi => by simp [ptrsA] at hi
 | .nilp, i, hi => by simp [ptrsA] at hi
 | .nilf, i, hi => by simp [ptrsA] at hi
 | .undef, i, hi => by simp [ptrsA] at hi
 | .vptr _ _, i, hi => by simp [ptrsA] at hi
 | .nt _ _, i, hi => by simp [ptrsA] at hi
 | .top, i, hi => by simp [ptrsA] at hi
theorem ptrsL_sub : ∀ {xs : List AV} {i : Id}, i ∈ ptrsL xs → i ∈ idsL xs
 | [], i, hi => by simp [ptrsL] at hi
 | x :: r, i, hi => by
  simp only [ptrsL, idsL] at hi ⊢
  exact (List.mem_append.1 hi).elim (fun h => List.mem_append_left _ (ptrsA_sub h)) (fun h => List.mem_append_right _ (ptrsL_sub h))
end
theorem mixIds_sub {all : Bool} : ∀ {xs : List AV} {i : Id}, i ∈ mixIds all h xs → i ∈ idsL xs
 | [], i, hi => by simp [mixIds] at hi
 | x :: r, i, hi => by
  have ih := mixIds_sub (all := all) (xs := r) (i := i)
  rw [idsL]
  cases x with
  | ref id =>
   simp only [mixIds] at hi
   rcases List.mem_append.1 hi with h1 | h1
   ·refine List.mem_append_left _ ?_
    split at h1
    ·simpa [idsA] using h1
    ·split at h1
     ·simpa [idsA] using h1
     ·cases h1
    ·cases h1
   ·exact List.mem_append_right _ (ih h1)
  | cut id a b =>
   simp only [mixIds] at hi
   rcases List.mem_append.1 hi with h1 | h1
   ·refine List.mem_append_left _ ?_
    split at h1
    ·simpa [idsA] using h1
    ·cases h1
   ·exact List.mem_append_right _ (ih h1)
  | _ => simp only [mixIds] at hi; exact List.mem_append_right _ (ih hi)
structure LocalF (P : Program) (callf : CallF) : Prop where
 live : ∀ st me f xs k, callf st me f xs k = some true → ∃ e, k e (footC P st.hp f xs) = some true
 foot : ∀ st me f xs k k', (∀ e, k e (footC P st.hp f xs) = k' e (footC P st.hp f xs)) → callf st me f xs k = callf st me f xs k'
 loc : ∀ st st' me f xs k, Agree st.hp st'.hp (footC P st.hp f xs) → callf st me f xs k = callf st' me f xs k
theorem footC_loc {g : AV} {xs : List AV} (ha : Agree h h' (footC P h g xs)) : footC P h g xs = footC P h' g xs := by
 unfold footC at ha ⊢
 split at ha
 ·rename_i f ys m hcal
  simp only [hcal] at ha ⊢
  have e1 : mixIds (genF P f) h ys = mixIds (genF P f) h' ys := mixIds_loc (ha.sub fun i hi => by simp only [List.mem_append]; exact .inr (.inl hi))
  have e2 := reachH_loc (h := h) (h' := h') (n := FUEL) (l := ptrsL ys ++ mixIds (genF P f) h ys) (seen := []) (ha.sub fun i hi => by
   rcases List.mem_append.1 hi with h1 | h1
   ·refine List.mem_append_right _ (List.mem_append_left _ ?_)
    exact (List.mem_append.1 h1).elim ptrsL_sub mixIds_sub
   ·exact List.mem_append_right _ (List.mem_append_right _ h1))
  rw [← e1, ← e2]
  congr 2
  rw [List.flatMap_def, List.flatMap_def]
  refine congrArg List.flatten (List.map_congr_left fun i hi => ?_)
  unfold idsAt
  rw [ha i (List.mem_append_left _ hi)]
 ·rename_i hcal
  simp only [hcal]
end
end AX
namespace AX
def LiveF (P : Program) (callf : CallF) : Prop := ∀ st me f xs k, callf st me f xs k = some true → ∃ e, k e (footC P st.hp f xs) = some true
section
variable {P : Program} {ht : Hints} {callf : CallF} {all : Array Oper}
theorem opsK_live (hl : LiveF P callf) : ∀ {ops : List Oper} {i : Nat} {st : St} {rs : List Rec} {k : St → List Rec → Option Bool}, opsK P callf all i ops st rs k = some true → ∃ s r, k s r = some true
 | [], i, st, rs, k, h => by rw [opsK] at h; exact ⟨_, _, h⟩
 | o :: rest, i, st, rs, k, h => by
  rw [opsK] at h
  split at h
  ·rcases cond_true h with ⟨_, h⟩ | ⟨_, h⟩
   ·split at h
    ·split at h
     ·split at h
      ·exact opsK_live hl h
      ·rcases cond_true h with ⟨_, h⟩ | ⟨_, h⟩ <;> exact opsK_live hl h
     ·cases h
    ·obtain ⟨e, he⟩ := hl _ _ _ _ _ h
     exact opsK_live hl he
    ·split at h
     ·rcases cond_true h with ⟨_, h⟩ | ⟨_, h⟩
      ·exact opsK_live hl h
      ·cases h
     ·cases h
   ·exact opsK_live hl h
  ·cases h
theorem iter_live {pl : St → St} {body : St → (Ex → St → Option Bool) → Option Bool} (hb : ∀ st k, body st k = some true → ∃ e s, k e s = some true) : ∀ {n : Nat} {st : St} {k : Ex → St → Option Bool}, iter n pl body st k = some true → ∃ e s, k e s = some true
 | 0, st, k, h => by rw [iter] at h; cases h
 | n + 1, st, k, h => by
  rw [iter] at h
  obtain ⟨e, s, h1⟩ := hb _ _ h
  cases e with
  | normal => exact iter_live hb h1
  | exit id => exact ⟨_, _, h1⟩
  | ret => exact ⟨_, _, h1⟩
theorem execK_live (hl : LiveF P callf) {f : FuncId} : ∀ (c : Code) (b : Nat) (st : St) (k : Ex → St → Option Bool), execK P ht f callf b c st k = some true → ∃ e s, k e s = some true
 | .skip, b, st, k, h => by rw [execK] at h; exact ⟨_, _, h⟩
 | .label l, b, st, k, h => by rw [execK] at h; exact ⟨_, _, h⟩
 | .exit id, b, st, k, h => by rw [execK] at h; exact ⟨_, _, h⟩
 | .ret, b, st, k, h => by rw [execK] at h; exact ⟨_, _, h⟩
 | .region id ops draw, b, st, k, h => by
  rw [execK] at h
  obtain ⟨s, r, h1⟩ := opsK_live hl h
  split at h1
  ·exact ⟨_, _, h1⟩
  ·split at h1
   ·exact ⟨_, _, h1⟩
   ·cases h1
 | .seq x y, b, st, k, h => by
  rw [execK] at h
  obtain ⟨e, s, h1⟩ := execK_live hl x b st _ h
  cases e with
  | normal => exact execK_live hl y b s k h1
  | exit id => exact ⟨_, _, h1⟩
  | ret => exact ⟨_, _, h1⟩
 | .cond c x y, b, st, k, h => by
  rw [execK] at h
  split at h
  ·rcases cond_true h with ⟨_, h⟩ | ⟨_, h⟩
   ·exact execK_live hl x b st k h
   ·exact execK_live hl y b st k h
  ·rename_i may yes _
   rcases cond_true h with ⟨_, h⟩ | ⟨_, h⟩
   ·exact execK_live hl x b st k (meet_true h).1
   ·cases yes with
    | true => exact execK_live hl y b st k h
    | false => exact execK_live hl x b st k h
  ·cases h
 | .block id c, b, st, k, h => by
  rw [execK] at h
  obtain ⟨e, s, h1⟩ := execK_live hl c id st _ h
  cases e with
  | normal => exact ⟨_, _, h1⟩
  | exit id' =>
   simp only at h1
   split at h1 <;> exact ⟨_, _, h1⟩
  | ret => exact ⟨_, _, h1⟩
 | .loop c, b, st, k, h => by
  rw [execK] at h
  exact iter_live (fun st k h => execK_live hl c b st k h) h
 | .rangeFunc g ps x y, b, st, k, h => by
  rw [execK] at h
  unfold rangeK at h
  split at h
  ·split at h
   ·obtain ⟨e, h1⟩ := hl _ _ _ _ _ h
    split at h1
    ·exact ⟨_, _, h1⟩
    ·cases h1
   ·cases h
  ·cases h
 | .scope x, b, st, k, h => by simp [execK] at h
 | .goto l, b, st, k, h => by simp [execK] at h
 | .refuse m, b, st, k, h => by simp [execK] at h
def LiveK (P : Program) (ht : Hints) (d : Nat) : Prop := ∀ f args h k, callK P ht d f args h k = some true → ∃ r h', k r h' = some true
theorem primE_foot {hp : Heap} {g : AV} {xs : List AV} {y : Bool × AV} (h : primE P g xs = some y) : footC P hp g xs = [] := by
 obtain ⟨b, z⟩ := y
 obtain ⟨f, s, n, rfl, rfl, hlt, _⟩ := primE_inv h
 unfold footC calleeOf
 simp only [Nat.blt_eq.mpr hlt]
 rfl
theorem liveF_of {d : Nat} (hd : LiveK P ht d) : LiveF P (callfOf P (callK P ht d)) := by
 intro st me f xs k h
 unfold callfOf at h
 split at h
 ·rename_i b z hp
  rcases cond_true h with ⟨_, hk⟩ | ⟨_, h⟩
  ·exact ⟨_, by rw [primE_foot hp]; exact hk⟩
  ·cases h
 unfold callfGo at h
 unfold footC
 split at h
 ·rename_i g ys m hcal
  simp only [hcal]
  simp only at h
  split at h
  ·split at h
   ·split at h
    ·obtain ⟨r, h', h1⟩ := hd _ _ _ _ h
     exact ⟨_, h1⟩
    ·cases h
   ·cases h
  ·cases h
 ·cases h
theorem leave_live {fn : Func} {k : AV → Heap → Option Bool} {e : Ex} {st : St} (h : leave P fn k e st = some true) : ∃ r h', k r h' = some true := by
 unfold leave at h
 split at h
 ·cases h
 ·split at h
  ·exact ⟨_, _, h⟩
  ·cases h
theorem leaveR_live {p : Option Plan} {k : AV → Heap → Option Bool} {e : Ex} {st : St} (h : leaveR P p k e st = some true) : ∃ r h', k r h' = some true := by
 cases e with
 | normal => exact ⟨_, _, h⟩
 | exit id => cases h
 | ret => cases h
theorem callS_cases {rec : RecF} {f : FuncId} {args : List AV} {h : Heap} {k : AV → Heap → Option Bool} {b : Option Bool} (hc : callS P ht rec f args h k = b) : funS P ht rec f args h k = b ∨ ∃ n, roundS P ht rec f n args h k = b := by
 unfold callS at hc
 cases hb : Nat.blt f RND with
 | true => rw [hb, _root_.cond_true] at hc; exact .inl hc
 | false => rw [hb, cond_false] at hc; exact .inr ⟨_, hc⟩
theorem liveK : ∀ d, LiveK P ht d
 | 0 => fun f args h k hc => by cases hc
 | d + 1 => fun f args h k hc => by
  rw [callK_succ] at hc
  rcases callS_cases hc with hc | ⟨n, hc⟩
  ·unfold funS at hc
   split at hc
   ·split at hc
    ·obtain ⟨e, s, h1⟩ := execK_live (liveF_of (liveK d)) _ _ _ _ hc
     exact leave_live h1
    ·cases hc
   ·cases hc
  ·unfold roundS at hc
   split at hc
   ·obtain ⟨e, s, h1⟩ := execK_live (liveF_of (liveK d)) _ _ _ _ hc
    exact leaveR_live h1
   ·cases hc
theorem localF_of (d : Nat) : LocalF P (callfOf P (callK P ht d)) where
 live := liveF_of (liveK d)
 foot := by
  intro st me f xs k k' hk
  unfold callfOf
  split
  ·rename_i b z hp
   rw [primE_foot hp] at hk
   rw [hk]
  unfold callfGo
  unfold footC at hk
  split
  ·rename_i g ys m hcal
   simp only [hcal] at hk
   simp only
   split
   ·split
    ·split
     ·congr 1
      funext r h'
      exact hk _
     ·rfl
    ·rfl
   ·rfl
  ·rfl
 loc := by
  intro st st' me f xs k ha
  unfold callfOf
  split
  ·rfl
  unfold callfGo
  split
  ·rename_i g ys m hcal
   have hf := footC_loc ha
   unfold footC at ha hf
   simp only [hcal] at ha hf ⊢
   have hx : Agree st.hp st'.hp (idsL ys) := ha.sub fun i hi => by simp only [List.mem_append]; exact .inr (.inl hi)
   have e1 : mixIds (genF P g) st.hp ys = mixIds (genF P g) st'.hp ys := mixIds_loc hx
   have e2 := reachH_loc (h := st.hp) (h' := st'.hp) (n := FUEL) (l := ptrsL ys ++ mixIds (genF P g) st.hp ys) (seen := []) (ha.sub fun i hi => by
    rcases List.mem_append.1 hi with h1 | h1
    ·refine List.mem_append_right _ (List.mem_append_left _ ?_)
     exact (List.mem_append.1 h1).elim ptrsL_sub mixIds_sub
    ·exact List.mem_append_right _ (List.mem_append_right _ h1))
   have e3 : ∀ ids t, inL st.hp ids t ys = inL st'.hp ids t ys := fun ids t => inL_loc hx
   have e5 : ∀ ids, ids = reachH st.hp FUEL (ptrsL ys ++ mixIds (genF P g) st.hp ys) [] → ids.flatMap (idsAt st.hp) = ids.flatMap (idsAt st'.hp) := by
    rintro ids rfl
    rw [List.flatMap_def, List.flatMap_def]
    refine congrArg List.flatten (List.map_congr_left fun i hi => ?_)
    unfold idsAt
    rw [ha i (List.mem_append_left _ hi)]
   rw [← e1, ← e2]
   generalize hids : reachH st.hp FUEL (ptrsL ys ++ mixIds (genF P g) st.hp ys) [] = ids at *
   have e4 : ∀ n t, inHeap st.hp ids n ids t = inHeap st'.hp ids n ids t := fun n t => inHeap_loc (ha.sub fun i hi => by
    rcases List.mem_append.1 hi with h1 | h1
    ·exact List.mem_append_left _ h1
    ·exact List.mem_append_right _ (List.mem_append_right _ h1))
   simp only [e3, e4, e5 ids rfl]
  ·rfl
end
end AX
namespace AX
section
variable {P : Program} {callf : CallF} {all : Array Oper}
def isC (o : Oper) : Bool := match o.op with
 | .call ⟨.value _, _, _⟩ => true
 | _ => false
def footO (P : Program) (st : St) (o : Oper) : List Id := match o.op with
 | .call ⟨.value f, args, _⟩ => footC P st.hp (evalA st.sl f) (args.toList.map (evalA st.sl))
 | _ => footE st.sl o
theorem footO_other {st : St} {o : Oper} (h2 : ∀ f args ts, o.op = .call ⟨.value f, args, ts⟩ → False) : footO P st o = footE st.sl o := by
 unfold footO
 split
 ·rename_i h; exact absurd h (h2 _ _ _)
 ·rfl
theorem wanted_loc {st st' : St} {o : Oper} (hl : Looks all o st.sl st'.sl) : wantedA all st o = wantedA all st' o := by
 unfold wantedA
 cases hg : o.guard with
 | none => rfl
 | some p =>
  obtain ⟨j, want⟩ := p
  simp only
  cases hd : (all[j]?).bind (·.dst) with
  | none => rfl
  | some d =>
   simp only
   rw [hl d (by unfold Oper.looksAt; simp [hg, hd])]
theorem stepP_pick {st : St} {i : Nat} {o : Oper} {K : Eff → Rec → Prop} {c x y : Operand} (ho : o.op = .pick c x y) :
  stepP P callf all st i o K = ∃ t : Ty.T .bool, evalA st.sl c = .d ⟨.bool, t⟩ ∧ K ⟨true, match b_ t with | true => evalA st.sl x | false => evalA st.sl y, [], []⟩ (rec0 all o) := by
 unfold stepP; simp only [ho]; rfl
theorem stepP_call {st : St} {i : Nat} {o : Oper} {K : Eff → Rec → Prop} {f : Operand} {args : Array Operand} {ts : Array TypeId} (ho : o.op = .call ⟨.value f, args, ts⟩) :
  stepP P callf all st i o K = ∃ k, callf st [st.n, i] (evalA st.sl f) (args.toList.map (evalA st.sl)) k = some true ∧ ∀ e foot, k e foot = some true → K e (recC all o e foot) := by
 unfold stepP; simp only [ho]
theorem stepP_loc (hL : LocalF P callf) {st st' : St} {i : Nat} {o : Oper} {K : Eff → Rec → Prop} (hn : st.n = st'.n) (hl : Looks all o st.sl st'.sl) (ha : Agree st.hp st'.hp (footO P st o)) (h : stepP P callf all st i o K) : stepP P callf all st' i o K := by
 by_cases hp : ∃ c x y, o.op = .pick c x y
 ·obtain ⟨c, x, y, ho⟩ := hp
  rw [stepP_pick ho] at h ⊢
  have ec := hl.eval (x := c) (by simp [ho, Op.operands])
  have ex := hl.eval (x := x) (by simp [ho, Op.operands])
  have ey := hl.eval (x := y) (by simp [ho, Op.operands])
  rw [← ec, ← ex, ← ey]
  exact h
 ·by_cases hq : ∃ f args ts, o.op = .call ⟨.value f, args, ts⟩
  ·obtain ⟨f, args, ts, ho⟩ := hq
   rw [stepP_call ho] at h ⊢
   have ef := hl.eval (x := f) (by simp [ho, Op.operands, Call.operands])
   have ea := map_loc hl (l := args.toList) (fun z hz => by simp [ho, Op.operands, Call.operands]; exact .inr (by simpa using hz))
   obtain ⟨k, h1, h2⟩ := h
   refine ⟨k, ?_, h2⟩
   rw [← ef, ← ea, ← hn, ← hL.loc st st' _ _ _ _ (by unfold footO at ha; simp only [ho] at ha; exact ha)]
   exact h1
  ·have h1 : ∀ c x y, o.op = .pick c x y → False := fun c x y h => hp ⟨c, x, y, h⟩
   have h2 : ∀ f args ts, o.op = .call ⟨.value f, args, ts⟩ → False := fun f args ts h => hq ⟨f, args, ts, h⟩
   rw [stepP_other h1 h2] at h ⊢
   rw [footO_other h2] at ha
   obtain ⟨e, h3, h4, h5⟩ := h
   refine ⟨e, ?_, h4, ?_⟩
   ·rw [← hn, ← stepE_loc hl ha]; exact h3
   ·have : recE all st'.sl o e = recE all st.sl o e := by unfold recE; rw [footE_loc hl]
    rw [this]; exact h5
theorem opP_loc (hL : LocalF P callf) {st st' : St} {i : Nat} {o : Oper} {K : Eff → Rec → Prop} (hn : st.n = st'.n) (hl : Looks all o st.sl st'.sl) (ha : wantedA all st o = some true → Agree st.hp st'.hp (footO P st o)) (h : opP P callf all st i o K) : opP P callf all st' i o K := by
 obtain ⟨b, h1, h2, h3⟩ := h
 refine ⟨b, by rw [← wanted_loc hl]; exact h1, fun hb => ?_, h3⟩
 subst hb
 exact stepP_loc hL hn hl (ha h1) (h2 rfl)
theorem opP_live (hL : LocalF P callf) {st : St} {i : Nat} {o : Oper} {K : Eff → Rec → Prop} (h : opP P callf all st i o K) : ∃ e r, K e r := by
 obtain ⟨b, h1, h2, h3⟩ := h
 cases b with
 | false => exact ⟨_, _, h3 rfl⟩
 | true =>
  have h := h2 rfl
  unfold stepP at h
  split at h
  ·obtain ⟨t, _, h4⟩ := h; exact ⟨_, _, h4⟩
  ·obtain ⟨k, h4, h5⟩ := h
   obtain ⟨e, he⟩ := hL.live _ _ _ _ _ h4
   exact ⟨_, _, h5 _ _ he⟩
  ·obtain ⟨e, _, _, h4⟩ := h; exact ⟨_, _, h4⟩
structure RecOf (P : Program) (all : Array Oper) (st : St) (o : Oper) (e : Eff) (r : Rec) : Prop where
 dst : r.dst = o.dst
 looks : r.looks = o.looksAt all
 foot : wantedA all st o = some true → r.foot = footO P st o
 chg : r.chg = e.del ++ e.set.map (·.1)
 call : wantedA all st o = some true → r.call = isC o
theorem opP_rec (hL : LocalF P callf) {st : St} {i : Nat} {o : Oper} {K : Eff → Rec → Prop} (h : opP P callf all st i o K) : opP P callf all st i o fun e r => K e r ∧ RecOf P all st o e r := by
 obtain ⟨b, h1, h2, h3⟩ := h
 refine ⟨b, h1, fun hb => ?_, fun hb => ?_⟩
 ·subst hb
  have h := h2 rfl
  by_cases hp : ∃ c x y, o.op = .pick c x y
  ·obtain ⟨c, x, y, ho⟩ := hp
   rw [stepP_pick ho] at h ⊢
   obtain ⟨t, h4, h5⟩ := h
   exact ⟨t, h4, h5, rfl, rfl, fun _ => by unfold footO; simp only [ho]; unfold footE; simp only [ho]; rfl, rfl, fun _ => by unfold isC; simp only [ho]; rfl⟩
  ·by_cases hq : ∃ f args ts, o.op = .call ⟨.value f, args, ts⟩
   ·obtain ⟨f, args, ts, ho⟩ := hq
    rw [stepP_call ho] at h ⊢
    obtain ⟨k, h4, h5⟩ := h
    refine ⟨fun e foot => match decEq foot (footC P st.hp (evalA st.sl f) (args.toList.map (evalA st.sl))) with | isTrue _ => k e foot | isFalse _ => none, ?_, fun e foot he => ?_⟩
    ·rw [← h4]
     refine hL.foot _ _ _ _ _ _ fun e => ?_
     split
     ·rfl
     ·rename_i hne _; exact absurd rfl hne
    ·dsimp only at he
     split at he
     ·rename_i hf _
      exact ⟨h5 e foot he, rfl, rfl, fun _ => by unfold footO; simp only [ho]; exact hf, rfl, fun _ => by unfold isC; simp only [ho]; rfl⟩
     ·cases he
   ·have h1 : ∀ c x y, o.op = .pick c x y → False := fun c x y h => hp ⟨c, x, y, h⟩
    have h2 : ∀ f args ts, o.op = .call ⟨.value f, args, ts⟩ → False := fun f args ts h => hq ⟨f, args, ts, h⟩
    rw [stepP_other h1 h2] at h ⊢
    obtain ⟨e, h3, h4, h5⟩ := h
    refine ⟨e, h3, h4, h5, rfl, rfl, fun _ => (footO_other h2).symm, rfl, fun _ => ?_⟩
    unfold isC
    split
    ·rename_i h; exact absurd h (h2 _ _ _)
    ·rfl
 ·subst hb
  exact ⟨h3 rfl, rfl, rfl, fun h => (by rw [h1] at h; cases h), rfl, fun h => (by rw [h1] at h; cases h)⟩
theorem opP_det {st : St} {i : Nat} {o : Oper} {K1 K2 : Eff → Rec → Prop} (hc : wantedA all st o = some true → isC o = false) (h1 : opP P callf all st i o K1) (h2 : opP P callf all st i o K2) :
  ∃ e r, K1 e r ∧ K2 e r ∧ opP P callf all st i o fun e' r' => e' = e ∧ r' = r := by
 obtain ⟨b, a1, a2, a3⟩ := h1
 obtain ⟨b', c1, c2, c3⟩ := h2
 rw [a1] at c1
 cases c1
 cases b with
 | false => exact ⟨_, _, a3 rfl, c3 rfl, false, a1, fun h => (by cases h), fun _ => ⟨rfl, rfl⟩⟩
 | true =>
  have x1 := a2 rfl
  have x2 := c2 rfl
  by_cases hp : ∃ c x y, o.op = .pick c x y
  ·obtain ⟨c, x, y, ho⟩ := hp
   rw [stepP_pick ho] at x1 x2
   obtain ⟨t, h4, h5⟩ := x1
   obtain ⟨t', h4', h5'⟩ := x2
   rw [h4] at h4'
   cases h4'
   refine ⟨_, _, h5, h5', true, a1, fun _ => ?_, fun h => by cases h⟩
   rw [stepP_pick ho]
   exact ⟨t, h4, rfl, rfl⟩
  ·by_cases hq : ∃ f args ts, o.op = .call ⟨.value f, args, ts⟩
   ·obtain ⟨f, args, ts, ho⟩ := hq
    have := hc a1
    unfold isC at this
    simp only [ho] at this
    cases this
   ·have h1 : ∀ c x y, o.op = .pick c x y → False := fun c x y h => hp ⟨c, x, y, h⟩
    have h2 : ∀ f args ts, o.op = .call ⟨.value f, args, ts⟩ → False := fun f args ts h => hq ⟨f, args, ts, h⟩
    rw [stepP_other h1 h2] at x1 x2
    obtain ⟨e, h3, h4, h5⟩ := x1
    obtain ⟨e', h3', h4', h5'⟩ := x2
    rw [h3] at h3'
    cases h3'
    refine ⟨_, _, h5, h5', true, a1, fun _ => ?_, fun h => by cases h⟩
    rw [stepP_other h1 h2]
    exact ⟨e, h3, h4, rfl, rfl⟩
theorem apply_n {st : St} {o : Oper} {e : Eff} : (apply st o e).n = st.n := rfl
theorem apply_get {st : St} {o : Oper} {e : Eff} {t : Tmp} (h : o.dst ≠ some t) : (apply st o e).sl.getD t .undef = st.sl.getD t .undef := by
 unfold apply
 cases hd : o.dst with
 | none => rfl
 | some d =>
  have hne : d ≠ t := fun h2 => h (by rw [hd, h2])
  simp [List.getD_eq_getElem?_getD, List.getElem?_set_ne hne]
theorem hget_none {l : Heap} {i : Id} (h : i ∉ l.map (·.1)) : hget l i = none := by
 induction l with
 | nil => rfl
 | cons p r ih =>
  obtain ⟨j, o⟩ := p
  rw [List.map_cons, List.mem_cons, not_or] at h
  rw [hget]
  split
  ·rename_i hj _; exact absurd hj.symm h.1
  ·exact ih h.2
theorem apply_hget {st : St} {o : Oper} {e : Eff} (i : Id) : hget (apply st o e).hp i = match hget e.set i with | some x => some x | none => if i ∈ e.del then none else hget st.hp i := by
 unfold apply
 simp only
 first
 | (rw [hget_hsets, hget_hdels]; done)
 | (rw [hget_hsets, hget_hdels]; rfl)
theorem apply_same {st : St} {o : Oper} {e : Eff} {i : Id} (h : i ∉ e.del ++ e.set.map (·.1)) : hget (apply st o e).hp i = hget st.hp i := by
 rw [List.mem_append, not_or] at h
 rw [apply_hget, hget_none h.2, if_neg h.1]
def Eqv (s s' : St) : Prop := s.sl = s'.sl ∧ s.n = s'.n ∧ ∀ i, hget s.hp i = hget s'.hp i
theorem Eqv.refl (s : St) : Eqv s s := ⟨rfl, rfl, fun _ => rfl⟩
theorem Eqv.symm {s s' : St} (h : Eqv s s') : Eqv s' s := ⟨h.1.symm, h.2.1.symm, fun i => (h.2.2 i).symm⟩
theorem Eqv.trans {s s' s'' : St} (h : Eqv s s') (h' : Eqv s' s'') : Eqv s s'' := ⟨h.1.trans h'.1, h.2.1.trans h'.2.1, fun i => (h.2.2 i).trans (h'.2.2 i)⟩
theorem Eqv.apply {s s' : St} (h : Eqv s s') (o : Oper) (e : Eff) : Eqv (apply s o e) (apply s' o e) := by
 refine ⟨?_, h.2.1, fun i => ?_⟩
 ·unfold AX.apply; rw [h.1]
 ·rw [apply_hget, apply_hget, h.2.2 i]
theorem apart_ids {a b : List Id} (h : apartIds a b = true) {i : Id} (hi : i ∈ a) : i ∉ b := by
 unfold apartIds at h
 rw [List.all_eq_true] at h
 have := h i hi
 intro hb
 rw [memId_iff.2 hb] at this
 cases this
theorem mem_nat {n : Nat} : ∀ {l : List Nat}, memNat n l = true ↔ n ∈ l
 | [] => by simp [memNat]
 | m :: r => by rw [memNat, Bool.or_eq_true, mem_nat (l := r), List.mem_cons]; exact or_congr ⟨fun h => (Nat.eq_of_beq_eq_true h).symm, fun h => by subst h; simp⟩ Iff.rfl
structure Apt (x y : Rec) : Prop where
 xy : ∀ i ∈ x.chg, i ∉ y.foot
 yx : ∀ i ∈ y.chg, i ∉ x.foot
 cc : ∀ i ∈ x.chg, i ∉ y.chg
 call : ¬ (x.call = true ∧ y.call = true)
 dxl : ∀ d, x.dst = some d → d ∉ y.looks
 dyl : ∀ d, y.dst = some d → d ∉ x.looks
 dd : ∀ d, x.dst = some d → y.dst ≠ some d
theorem apartRec_ok {x y : Rec} (h : apartRec x y = true) : Apt x y := by
 unfold apartRec at h
 simp only [Bool.and_eq_true, Bool.not_eq_true'] at h
 obtain ⟨⟨⟨⟨⟨h1, h2⟩, h3⟩, h4⟩, h5⟩, h6⟩ := h
 refine ⟨fun i => apart_ids h1, fun i => apart_ids h2, fun i => apart_ids h3, fun ⟨a, b⟩ => (by rw [a, b] at h4; cases h4), fun d hd => ?_, fun d hd => ?_, fun d hd hd2 => ?_⟩
 ·rw [hd] at h5
  simp only [Bool.and_eq_true, Bool.not_eq_true'] at h5
  intro hm
  rw [mem_nat.2 hm] at h5
  cases h5.1
 ·rw [hd] at h6
  simp only [Bool.not_eq_true'] at h6
  intro hm
  rw [mem_nat.2 hm] at h6
  cases h6
 ·rw [hd, hd2] at h5
  simp only [Bool.and_eq_true, Bool.not_eq_true'] at h5
  have := h5.2
  simp at this
theorem apply_comm {st : St} {q p : Oper} {eq ep : Eff} {rq rp : Rec} (h : Apt rq rp) (dq : rq.dst = q.dst) (dp : rp.dst = p.dst) (cq : rq.chg = eq.del ++ eq.set.map (·.1)) (cp : rp.chg = ep.del ++ ep.set.map (·.1)) :
  Eqv (apply (apply st q eq) p ep) (apply (apply st p ep) q eq) := by
 refine ⟨?_, rfl, fun i => ?_⟩
 ·unfold AX.apply
  cases hq : q.dst with
  | none => cases p.dst <;> rfl
  | some d =>
   cases hp : p.dst with
   | none => rfl
   | some d' =>
    have hne : d ≠ d' := fun e => h.dd d (by rw [dq, hq]) (by rw [dp, hp, e])
    simp only
    rw [List.set_comm _ _ hne]
 ·rw [apply_hget, apply_hget, apply_hget, apply_hget]
  by_cases hi : i ∈ rq.chg
  ·have hj := h.cc i hi
   rw [cp, List.mem_append, not_or] at hj
   rw [hget_none hj.2, if_neg hj.1]
   cases hget eq.set i <;> simp [hj.1]
  ·rw [cq, List.mem_append, not_or] at hi
   rw [hget_none hi.2, if_neg hi.1]
   cases hget ep.set i <;> simp [hi.1]
theorem opP_swap (hL : LocalF P callf) {st : St} {i j : Nat} {q p : Oper} {G : Eff → Rec → Eff → Rec → Prop} (hG : ∀ eq rq ep rp, G eq rq ep rp → apartRec rq rp = true)
  (h : opP P callf all st i q fun eq rq => opP P callf all (apply st q eq) j p fun ep rp => G eq rq ep rp) :
  opP P callf all st j p fun ep rp => opP P callf all (apply st p ep) i q fun eq rq => G eq rq ep rp ∧ Eqv (apply (apply st q eq) p ep) (apply (apply st p ep) q eq) := by
 have A : ∀ {eq : Eff} {rq : Rec}, RecOf P all st q eq rq → opP P callf all (apply st q eq) j p (fun ep rp => G eq rq ep rp) → Looks all p (apply st q eq).sl st.sl ∧ opP P callf all st j p fun ep rp => G eq rq ep rp ∧ Apt rq rp ∧ RecOf P all (apply st q eq) p ep rp := by
  intro eq rq hr hh
  have h1 := opP_mono (opP_rec hL hh) (K' := fun ep rp => G eq rq ep rp ∧ Apt rq rp ∧ RecOf P all (apply st q eq) p ep rp) fun ep rp ⟨a, b⟩ => ⟨a, apartRec_ok (hG _ _ _ _ a), b⟩
  obtain ⟨ep, rp, g1, g2, g3⟩ := opP_live hL h1
  have hlk : Looks all p (apply st q eq).sl st.sl := fun t ht => apply_get fun hd => g2.dxl t (by rw [hr.dst, hd]) (by rw [g3.looks]; exact ht)
  refine ⟨hlk, opP_loc (st := apply st q eq) hL rfl hlk (fun hw x hx => apply_same fun hx2 => g2.xy x (by rw [hr.chg]; exact hx2) (by rw [g3.foot hw]; exact hx)) h1⟩
 have B : ∀ {K : Eff → Rec → Prop} {ep : Eff} {rp : Rec} {eq : Eff} {rq : Rec}, RecOf P all st q eq rq → Apt rq rp → rp.dst = p.dst → rp.chg = ep.del ++ ep.set.map (·.1) → opP P callf all st i q K → opP P callf all (apply st p ep) i q K := by
  intro K ep rp eq rq hr ha hd hc hh
  refine opP_loc (st := st) hL rfl (fun t ht => (apply_get fun hd2 => ha.dyl t (by rw [hd, hd2]) (by rw [hr.looks]; exact ht)).symm) (fun hw x hx => (apply_same fun hx2 => ha.yx x (by rw [hc]; exact hx2) (by rw [hr.foot hw]; exact hx)).symm) hh
 have h0 := opP_rec hL h
 by_cases hq : wantedA all st q = some true → isC q = false
 ·obtain ⟨eq, rq, ⟨h1, hr⟩, _, h2⟩ := opP_det hq h0 h0
  obtain ⟨_, h3⟩ := A hr h1
  refine opP_mono h3 fun ep rp ⟨g, ha, hrp⟩ => ?_
  refine opP_mono (B hr ha hrp.dst hrp.chg h2) ?_
  rintro _ _ ⟨rfl, rfl⟩
  exact ⟨g, apply_comm ha hr.dst hrp.dst hr.chg hrp.chg⟩
 ·have hq' : wantedA all st q = some true ∧ isC q = true := by
   by_cases hw : wantedA all st q = some true
   ·refine ⟨hw, ?_⟩
    cases hc : isC q with
    | true => rfl
    | false => exact absurd (fun _ => hc) hq
   ·exact absurd (fun hw2 => absurd hw2 hw) hq
  obtain ⟨eq1, rq1, h1, hr1⟩ := opP_live hL h0
  obtain ⟨hlk, h2⟩ := A hr1 h1
  obtain ⟨ep1, rp1, _, ha1, hrp1⟩ := opP_live hL h2
  have hpc : wantedA all st p = some true → isC p = false := by
   intro hw
   have hw' : wantedA all (apply st q eq1) p = some true := by rw [wanted_loc hlk]; exact hw
   cases hc : isC p with
   | false => rfl
   | true => exact absurd ⟨by rw [hr1.call hq'.1, hq'.2], by rw [hrp1.call hw', hc]⟩ ha1.call
  obtain ⟨ep, rp, ⟨_, ha, hrp⟩, _, h3⟩ := opP_det hpc h2 h2
  refine opP_mono h3 ?_
  rintro _ _ ⟨rfl, rfl⟩
  refine B hr1 ha hrp.dst hrp.chg (opP_mono h0 fun eq rq ⟨h4, hr⟩ => ?_)
  obtain ⟨_, h5⟩ := A hr h4
  obtain ⟨ep', rp', ⟨g, ha', hrp'⟩, ⟨rfl, rfl⟩, _⟩ := opP_det hpc h5 h3
  exact ⟨g, apply_comm ha' hr.dst hrp'.dst hr.chg hrp'.chg⟩
end
end AX
namespace AX
section
variable {P : Program} {callf : CallF} {all : Array Oper}
def Req (r r' : List (Nat × Rec)) : Prop := ∀ x, x ∈ r ↔ x ∈ r'
def Cl (K : St → List (Nat × Rec) → Prop) (s : St) (r : List (Nat × Rec)) : Prop := ∃ s0 r0, Eqv s0 s ∧ Req r0 r ∧ K s0 r0
theorem Cl.self {K : St → List (Nat × Rec) → Prop} {s : St} {r : List (Nat × Rec)} (h : K s r) : Cl K s r := ⟨s, r, Eqv.refl s, fun _ => Iff.rfl, h⟩
theorem Cl.cl {K : St → List (Nat × Rec) → Prop} {s : St} {r : List (Nat × Rec)} (h : Cl (Cl K) s r) : Cl K s r := by
 obtain ⟨s0, r0, h1, h2, s1, r1, h3, h4, h5⟩ := h
 exact ⟨s1, r1, h3.trans h1, fun x => (h4 x).trans (h2 x), h5⟩
theorem Req.snoc {r r' : List (Nat × Rec)} (h : Req r r') (x : Nat × Rec) : Req (r ++ [x]) (r' ++ [x]) := fun y => by
 rw [List.mem_append, List.mem_append, h y]
theorem opsP_eqv (hL : LocalF P callf) : ∀ {l : List (Nat × Oper)} {st st' : St} {rs rs' : List (Nat × Rec)} {K : St → List (Nat × Rec) → Prop}, Eqv st st' → Req rs rs' → opsP P callf all l st rs K → opsP P callf all l st' rs' (Cl K)
 | [], st, st', rs, rs', K, he, hr, h => ⟨st, rs, he, hr, h⟩
 | (i, o) :: r, st, st', rs, rs', K, he, hr, h => by
  have h1 : opP P callf all st' i o fun e rc => opsP P callf all r (apply st o e) (rs ++ [(i, rc)]) K :=
   opP_loc hL he.2.1 (fun t _ => by rw [he.1]) (fun _ x _ => he.2.2 x) h
  exact opP_mono h1 fun e rc h2 => opsP_eqv hL (he.apply o e) (hr.snoc _) h2
theorem opsP_live (hL : LocalF P callf) : ∀ {l : List (Nat × Oper)} {st : St} {rs : List (Nat × Rec)} {K : St → List (Nat × Rec) → Prop}, opsP P callf all l st rs K → ∃ s r, K s r ∧ ∀ x ∈ rs, x ∈ r
 | [], st, rs, K, h => ⟨st, rs, h, fun _ hx => hx⟩
 | (i, o) :: r, st, rs, K, h => by
  obtain ⟨e, rc, h1⟩ := opP_live hL h
  obtain ⟨s, r', h2, h3⟩ := opsP_live hL h1
  exact ⟨s, r', h2, fun x hx => h3 x (List.mem_append_left _ hx)⟩
def Aparts (bits : List Nat) (r : List (Nat × Rec)) : Prop := ∀ x ∈ r, ∀ y ∈ r, x.1 < y.1 → (bits.getD y.1 0).testBit x.1 = false → apartRec x.2 y.2 = true
theorem moveFront (hL : LocalF P callf) {bits : List Nat} {p : Nat × Oper} : ∀ {l1 l2 : List (Nat × Oper)} {st : St} {rs : List (Nat × Rec)} {K : St → List (Nat × Rec) → Prop}, (∀ s r, K s r → Aparts bits r) → (∀ q ∈ l1, q.1 < p.1 ∧ (bits.getD p.1 0).testBit q.1 = false) →
  opsP P callf all (l1 ++ p :: l2) st rs K → opsP P callf all (p :: (l1 ++ l2)) st rs (Cl K)
 | [], l2, st, rs, K, hK, hq, h => opsP_mono h fun _ _ h => Cl.self h
 | q :: l1, l2, st, rs, K, hK, hq, h => by
  have hK' : ∀ s r, Cl K s r → Aparts bits r := by
   rintro s r ⟨s0, r0, _, h2, h3⟩ x hx y hy
   exact hK _ _ h3 x ((h2 x).2 hx) y ((h2 y).2 hy)
  have h1 : opP P callf all st q.1 q.2 fun eq rq => opP P callf all (apply st q.2 eq) p.1 p.2 fun ep rp => opsP P callf all (l1 ++ l2) (apply (apply st q.2 eq) p.2 ep) ((rs ++ [(q.1, rq)]) ++ [(p.1, rp)]) (Cl K) :=
   opP_mono h fun eq rq h2 => moveFront hL hK (fun q' hq' => hq q' (List.mem_cons_of_mem _ hq')) h2
  have h2 := opP_swap hL (fun eq rq ep rp hG => by
   obtain ⟨s, r, h3, h4⟩ := opsP_live hL hG
   obtain ⟨h5, h6⟩ := hq q List.mem_cons_self
   exact hK' _ _ h3 (q.1, rq) (h4 _ (by simp)) (p.1, rp) (h4 _ (by simp)) h5 h6) h1
  refine opP_mono h2 fun ep rp h3 => opP_mono h3 fun eq rq ⟨h4, h5⟩ => ?_
  refine opsP_mono (opsP_eqv hL h5 (rs' := (rs ++ [(p.1, rp)]) ++ [(q.1, rq)]) (fun x => by simp only [List.mem_append]; constructor <;> rintro ((h | h) | h) <;> simp [h]) h4) fun _ _ h => h.cl
inductive Dep (ops : Array Oper) : Nat → Nat → Prop where
 | one {j : Nat} {o : Oper} {e : Edge} : ops[j]? = some o → e ∈ o.after → Region.binds .any e = true → Dep ops j e.on
 | more {j i : Nat} {o : Oper} {e : Edge} : ops[j]? = some o → e ∈ o.after → Region.binds .any e = true → Dep ops e.on i → Dep ops j i
theorem bits_in {ops : Array Oper} {j : Nat} {o : Oper} {acc : List Nat} (ho : ops[j]? = some o) (ha : ∀ k, k < acc.length → ∀ i, (acc.getD k 0).testBit i = true → Dep ops k i) : ∀ (l : List Edge) (b : Nat), (∀ e ∈ l, e ∈ o.after) → (∀ i, b.testBit i = true → Dep ops j i) →
  ∀ i, (l.foldl (fun b e => match Region.binds .any e with | true => b ||| 2 ^ e.on ||| acc.getD e.on 0 | false => b) b).testBit i = true → Dep ops j i
 | [], b, _, hb, i, hi => hb i hi
 | e :: l, b, hl, hb, i, hi => by
  rw [List.foldl_cons] at hi
  refine bits_in ho ha l _ (fun e' he' => hl e' (List.mem_cons_of_mem _ he')) (fun k hk => ?_) i hi
  cases hbd : Region.binds .any e with
  | false => rw [hbd] at hk; exact hb k hk
  | true =>
   rw [hbd] at hk
   simp only [Nat.testBit_or, Bool.or_eq_true] at hk
   rcases hk with (hk | hk) | hk
   ·exact hb k hk
   ·rw [Nat.testBit_two_pow] at hk
    have : e.on = k := by simpa using hk
    subst this
    exact .one ho (hl e List.mem_cons_self) hbd
   ·by_cases hlt : e.on < acc.length
    ·exact .more ho (hl e List.mem_cons_self) hbd (ha _ hlt k hk)
    ·rw [List.getD_eq_getElem?_getD, List.getElem?_eq_none (by omega)] at hk
     simp at hk
theorem bits_go {ops : Array Oper} : ∀ (l : List Oper) (acc : List Nat), (∀ k, l[k]? = ops[acc.length + k]?) → (∀ k, k < acc.length → ∀ i, (acc.getD k 0).testBit i = true → Dep ops k i) →
  ∀ k i, ((l.foldl (fun (acc : List Nat) (o : Oper) => acc ++ [o.after.toList.foldl (fun b e => match Region.binds .any e with | true => b ||| 2 ^ e.on ||| acc.getD e.on 0 | false => b) 0]) acc).getD k 0).testBit i = true → Dep ops k i
 | [], acc, _, ha, k, i, hi => by
  by_cases hk : k < acc.length
  ·exact ha k hk i hi
  ·rw [List.foldl_nil, List.getD_eq_getElem?_getD, List.getElem?_eq_none (by omega)] at hi
   simp at hi
 | o :: l, acc, hl, ha, k, i, hi => by
  rw [List.foldl_cons] at hi
  have ho : ops[acc.length]? = some o := by have := hl 0; simpa using this.symm
  refine bits_go l _ (fun k => ?_) (fun k hk i hi => ?_) k i hi
  ·have := hl (k + 1)
   rw [List.getElem?_cons_succ] at this
   rw [this, List.length_append]
   congr 1
   simp only [List.length_singleton]
   omega
  ·rw [List.length_append, List.length_singleton] at hk
   by_cases hk2 : k < acc.length
   ·rw [List.getD_eq_getElem?_getD, List.getElem?_append_left hk2, ← List.getD_eq_getElem?_getD] at hi
    exact ha k hk2 i hi
   ·have : k = acc.length := by omega
    subst this
    rw [List.getD_eq_getElem?_getD, List.getElem?_append_right (Nat.le_refl _)] at hi
    simp only [Nat.sub_self, List.getElem?_cons_zero, Option.getD_some] at hi
    exact bits_in ho ha _ 0 (fun e he => by simpa using he) (fun i hi => by simp at hi) i hi
theorem bits_dep {ops : Array Oper} {j i : Nat} (h : ((bitsOf ops.toList).getD j 0).testBit i = true) : Dep ops j i :=
 bits_go ops.toList [] (fun k => by simp) (fun k hk => by cases hk) j i h
def Closed (ops : Array Oper) (listed : Array Bool) : Prop := ∀ j o e, listed.getD j false = true → ops[j]? = some o → e ∈ o.after → Region.binds .any e = true → listed.getD e.on false = true
theorem Closed.dep {ops : Array Oper} {listed : Array Bool} (hc : Closed ops listed) {j i : Nat} (h : Dep ops j i) : (∀ o e, ops[j]? = some o → e ∈ o.after → Region.binds .any e = true → listed.getD e.on false = true) → listed.getD i false = true := by
 induction h with
 | one h1 h2 h3 => intro hj; exact hj _ _ h1 h2 h3
 | more h1 h2 h3 _ ih => intro hj; exact ih fun o e ho he hb => hc _ o e (hj _ _ h1 h2 h3) ho he hb
theorem backOk_get : ∀ {l : List Oper} {n j : Nat} {o : Oper} {e : Edge}, backOk n l = true → l[j]? = some o → e ∈ o.after → Region.binds .any e = true → e.on < n + j
 | [], n, j, o, e, _, h2, _, _ => by simp at h2
 | x :: r, n, 0, o, e, h1, h2, h3, h4 => by
  simp only [List.getElem?_cons_zero, Option.some.injEq] at h2
  subst h2
  rw [backOk, Bool.and_eq_true, List.all_eq_true] at h1
  have := h1.1 e (by simpa using h3)
  rw [h4] at this
  simpa using this
 | x :: r, n, j + 1, o, e, h1, h2, h3, h4 => by
  rw [List.getElem?_cons_succ] at h2
  rw [backOk, Bool.and_eq_true] at h1
  have := backOk_get h1.2 h2 h3 h4
  omega
theorem drawOk_ok {ops : Array Oper} {rs : List (Nat × Rec)} (hi : rs.map (·.1) = List.range rs.length) (h : drawOk ops (rs.map (·.2)) = true) : backOk 0 ops.toList = true ∧ Aparts (bitsOf ops.toList) rs := by
 unfold drawOk at h
 simp only [Bool.and_eq_true, List.all_eq_true, List.mem_range, List.length_map, Bool.or_eq_true] at h
 refine ⟨h.1, fun x hx y hy hlt hb => ?_⟩
 obtain ⟨m, hm⟩ := List.getElem?_of_mem hx
 obtain ⟨n, hn⟩ := List.getElem?_of_mem hy
 have idx : ∀ {k : Nat} {z : Nat × Rec}, rs[k]? = some z → z.1 = k ∧ k < rs.length := by
  intro k z hz
  have hk := (List.getElem?_eq_some_iff.1 hz).1
  have : (rs.map (·.1))[k]? = some z.1 := by rw [List.getElem?_map, hz]; rfl
  rw [hi, List.getElem?_range hk] at this
  exact ⟨(Option.some.inj this).symm, hk⟩
 obtain ⟨e1, _⟩ := idx hm
 obtain ⟨e2, hn2⟩ := idx hn
 have h3 := h.2 n hn2 m (by omega)
 rw [e1, e2] at hb
 rw [hb, List.getElem?_map, List.getElem?_map, hm, hn] at h3
 simpa using h3
end
end AX
namespace AX
section
variable {P : Program} {callf : CallF} {ops : Array Oper}
theorem Sim.eqv {C : Ctx} {U : Nat → Prop} {st st' : St} {a : Act} {w : World} (hs : Sim P C U st' a w) (h : Eqv st st') : Sim P C U st a w := by
 refine ⟨by rw [h.1]; exact hs.slots, ?_, fun id l hl => by rw [h.2.1]; exact hs.fresh id l hl, hs.defers⟩
 have : hget st.hp = hget st'.hp := funext h.2.2
 rw [this]; exact hs.heap
theorem Ext.eqv {C0 C : Ctx} {h0 : Id → Option Obj} {w0 w : World} {st st' : St} (hs : Ext C0 h0 w0 C (hget st'.hp) w) (h : Eqv st st') : Ext C0 h0 w0 C (hget st.hp) w := by
 have : hget st.hp = hget st'.hp := funext h.2.2
 rw [this]; exact hs
structure Left (ops : Array Oper) (listed : Array Bool) (L : List (Nat × Oper)) (U : Nat → Prop) : Prop where
 size : listed.size = ops.size
 sorted : (L.map (·.1)).Pairwise (· < ·)
 mem : ∀ i o, (i, o) ∈ L ↔ ops[i]? = some o ∧ listed.getD i true = false
 closed : Closed ops listed
 fresh : ∀ p ∈ L, ¬ U p.1
theorem Left.next {listed : Array Bool} {U : Nat → Prop} {l1 l2 : List (Nat × Oper)} {i : Nat} {o : Oper} (h : Left ops listed (l1 ++ (i, o) :: l2) U) (hr : ∀ e ∈ o.after, Region.binds .any e = true → listed.getD e.on false = true) :
  Left ops (listed.setIfInBounds i true) (l1 ++ l2) (fun j => U j ∨ j = i) := by
 have hio := (h.mem i o).1 (by simp)
 have hlt : i < ops.size := (Array.getElem?_eq_some_iff.1 hio.1).1
 have hsort := h.sorted
 rw [List.map_append, List.map_cons, List.pairwise_append, List.pairwise_cons] at hsort
 have hne : ∀ p ∈ l1 ++ l2, p.1 ≠ i := by
  intro p hp he
  rcases List.mem_append.1 hp with h1 | h1
  ·have := hsort.2.2 p.1 (List.mem_map_of_mem h1) i List.mem_cons_self; omega
  ·have := hsort.2.1.1 p.1 (List.mem_map_of_mem h1); omega
 have hsame : ∀ (j : Nat) (d : Bool), j ≠ i → (listed.setIfInBounds i true).getD j d = listed.getD j d := fun j d hj => getD_set_ne d (Ne.symm hj)
 have hself : ∀ d, (listed.setIfInBounds i true).getD i d = true := by
  intro d
  rw [Array.getD_eq_getD_getElem?, Array.getElem?_setIfInBounds_self_of_lt (by rw [h.size]; exact hlt)]
  rfl
 refine ⟨by simp [h.size], ?_, fun j o' => ?_, ?_, ?_⟩
 ·rw [List.map_append, List.pairwise_append]
  exact ⟨hsort.1, hsort.2.1.2, fun a ha b hb => hsort.2.2 a ha b (List.mem_cons_of_mem _ hb)⟩
 ·constructor
  ·intro hm
   have hj := hne _ hm
   rw [hsame j true hj]
   refine (h.mem j o').1 ?_
   rcases List.mem_append.1 hm with h1 | h1
   ·exact List.mem_append_left _ h1
   ·exact List.mem_append_right _ (List.mem_cons_of_mem _ h1)
  ·rintro ⟨h1, h2⟩
   by_cases hj : j = i
   ·subst hj; rw [hself] at h2; cases h2
   ·rw [hsame j true hj] at h2
    have := (h.mem j o').2 ⟨h1, h2⟩
    rcases List.mem_append.1 this with h3 | h3
    ·exact List.mem_append_left _ h3
    ·rcases List.mem_cons.1 h3 with h4 | h4
     ·cases h4; exact absurd rfl hj
     ·exact List.mem_append_right _ h4
 ·intro j o' e h1 h2 h3 h4
  by_cases hj : j = i
  ·subst hj
   rw [hio.1] at h2
   cases h2
   exact getD_set_true (hr e h3 h4)
  ·rw [hsame j false hj] at h1
   exact getD_set_true (h.closed j o' e h1 h2 h3 h4)
 ·intro p hp hu
  rcases hu with hu | hu
  ·refine h.fresh p ?_ hu
   rcases List.mem_append.1 hp with h1 | h1
   ·exact List.mem_append_left _ h1
   ·exact List.mem_append_right _ (List.mem_cons_of_mem _ h1)
  ·exact hne p hp hu
theorem Left.ready {listed : Array Bool} {U : Nat → Prop} {L : List (Nat × Oper)} (h : Left ops listed L U) (hb : backOk 0 ops.toList = true) (hr : Region.ready .any ops listed = []) : L = [] := by
 cases L with
 | nil => rfl
 | cons p r =>
  exfalso
  obtain ⟨i, o⟩ := p
  have hio := (h.mem i o).1 List.mem_cons_self
  have hsort := h.sorted
  rw [List.map_cons, List.pairwise_cons] at hsort
  have : i ∈ Region.ready .any ops listed := by
   rw [mem_ready]
   refine ⟨hio.2, o, hio.1, fun e he hbd => ?_⟩
   have hlt := backOk_get hb (by simpa using hio.1) he hbd
   rw [Nat.zero_add] at hlt
   have hi : i < ops.size := (Array.getElem?_eq_some_iff.1 hio.1).1
   have hei : e.on < listed.size := by rw [h.size]; omega
   cases hx : listed.getD e.on true with
   | true =>
    rw [Array.getD_eq_getD_getElem?, Array.getElem?_eq_getElem hei] at hx ⊢
    exact hx
   | false =>
    exfalso
    have hoe : ops[e.on]? = some ops[e.on] := Array.getElem?_eq_getElem (by omega)
    have := (h.mem e.on _).2 ⟨hoe, hx⟩
    rcases List.mem_cons.1 this with h3 | h3
    ·cases h3; omega
    ·have := hsort.1 e.on (List.mem_map_of_mem (f := (·.1)) h3); omega
  rw [hr] at this
  cases this
theorem wpAny_ok {rd : Option Nat} (hc : CallSound P callf) (hL : LocalF P callf) (hb : backOk 0 ops.toList = true) {C0 : Ctx} {h0 : Id → Option Obj} {w0 : World} {Q : Exit → Act → World → Prop} {n : Nat} :
  ∀ (fuel : Nat) {listed : Array Bool} {L : List (Nat × Oper)} {U : Nat → Prop} {st : St} {rs : List (Nat × Rec)} {a : Act} {w : World} {C : Ctx} {K : St → List (Nat × Rec) → Prop}, Left ops listed L U → L.length ≤ fuel → st.n = n → Sim P C U st a w → Ext C0 h0 w0 C (hget st.hp) w →
   opsP P callf ops L st rs K → (∀ s r, K s r → Aparts (bitsOf ops.toList) r) → (∀ st' rs' C' U' a' w', st'.n = n → K st' rs' → Sim P C' U' st' a' w' → Ext C0 h0 w0 C' (hget st'.hp) w' → Q .normal a' w') →
   wpAnyIn (Wd rd) 0 P .any ops Q fuel listed a w := by
 intro fuel
 induction fuel with
 | zero =>
  intro listed L U st rs a w C K hl hf hn hs he h hK hq
  have hL0 : L = [] := List.eq_nil_of_length_eq_zero (by omega)
  subst hL0
  refine ⟨?_, hq st rs C U a w hn h hs he⟩
  cases hr : Region.ready .any ops listed with
  | nil => rfl
  | cons i r =>
   exfalso
   have : i ∈ Region.ready .any ops listed := by rw [hr]; exact List.mem_cons_self
   obtain ⟨h1, o, h2, _⟩ := mem_ready.1 this
   have := (hl.mem i o).2 ⟨h2, h1⟩
   cases this
 | succ fuel ih =>
  intro listed L U st rs a w C K hl hf hn hs he h hK hq
  refine ⟨fun hr => ?_, fun i hi => ?_⟩
  ·have := hl.ready hb hr
   subst this
   exact hq st rs C U a w hn h hs he
  ·obtain ⟨h1, o, h2, h3⟩ := mem_ready.1 hi
   have hm := (hl.mem i o).2 ⟨h2, h1⟩
   obtain ⟨l1, l2, rfl⟩ := List.append_of_mem hm
   have hsort := hl.sorted
   rw [List.map_append, List.map_cons, List.pairwise_append] at hsort
   have hfr := moveFront (bits := bitsOf ops.toList) hL hK (fun q hq1 => by
    refine ⟨hsort.2.2 q.1 (List.mem_map_of_mem hq1) i List.mem_cons_self, ?_⟩
    cases hbt : ((bitsOf ops.toList).getD i 0).testBit q.1 with
    | false => rfl
    | true =>
     exfalso
     have h4 := hl.closed.dep (bits_dep hbt) fun o' e ho' he' hb' => by
      rw [h2] at ho'
      cases ho'
      exact h3 e he' hb'
     have h5 := ((hl.mem q.1 q.2).1 (List.mem_append_left _ hq1)).2
     have hlt : q.1 < listed.size := by rw [hl.size]; exact (Array.getElem?_eq_some_iff.1 ((hl.mem q.1 q.2).1 (List.mem_append_left _ hq1)).1).1
     rw [Array.getD_eq_getD_getElem?, Array.getElem?_eq_getElem hlt] at h4 h5
     simp only [Option.getD_some] at h4 h5
     rw [h4] at h5
     cases h5) h
   have hsnd := opP_sound (r := rd) (Q := Q) (N := wpAnyIn (Wd rd) 0 P .any ops Q fuel (listed.setIfInBounds i true)) hc hs (hl.fresh (i, o) hm) hfr fun e rc v C' w' h4 h5 => by
    refine ih (hl.next h3) ?_ (by rw [apply_n]; exact hn) (hs.apply h5) (he.trans h5.ext) h4 ?_ ?_
    ·simp only [List.length_append, List.length_cons] at hf ⊢; omega
    ·rintro s r ⟨s0, r0, _, h7, h8⟩ x hx y hy
     exact hK _ _ h8 x ((h7 x).2 hx) y ((h7 y).2 hy)
    ·rintro st' rs' C'' U' a' w'' hn' ⟨s0, r0, h6, h7, h8⟩ hs' he'
     exact hq s0 r0 C'' U' a' w'' (h6.2.1.trans hn') h8 (hs'.eqv h6) (he'.eqv h6)
   unfold wpOpIn
   rw [h2]
   exact hsnd
theorem pairs_sorted : ∀ (i : Nat) (l : List Oper), ((pairs i l).map (·.1)).Pairwise (· < ·) := by
 intro i l
 rw [pairs_map]
 exact List.pairwise_lt_range'
theorem pairs_mem {l : List Oper} {i : Nat} {o : Oper} : ∀ {k : Nat}, (i, o) ∈ pairs k l ↔ k ≤ i ∧ l[i - k]? = some o := by
 induction l with
 | nil => intro k; simp [pairs]
 | cons x r ih =>
  intro k
  rw [pairs, List.mem_cons, ih]
  constructor
  ·rintro (h | ⟨h1, h2⟩)
   ·cases h; simp
   ·refine ⟨by omega, ?_⟩
    rw [show i - k = (i - (k + 1)) + 1 by omega]
    exact h2
  ·rintro ⟨h1, h2⟩
   by_cases hk : i = k
   ·subst hk; simp at h2; subst h2; exact .inl rfl
   ·refine .inr ⟨by omega, ?_⟩
    rw [show i - k = (i - (k + 1)) + 1 by omega] at h2
    exact h2
theorem pairs_len (i : Nat) (l : List Oper) : (pairs i l).length = l.length := by
 have := congrArg List.length (pairs_map i l)
 simpa using this
theorem opsP_recs : ∀ {l : List (Nat × Oper)} {st : St} {rs : List (Nat × Rec)} {K : St → List (Nat × Rec) → Prop}, opsP P callf ops l st rs K → opsP P callf ops l st rs fun s r => K s r ∧ r.map (·.1) = rs.map (·.1) ++ l.map (·.1)
 | [], st, rs, K, h => ⟨h, by simp⟩
 | (i, o) :: l, st, rs, K, h => opP_mono h fun e rc h1 => opsP_mono (opsP_recs h1) fun s r ⟨h2, h3⟩ => ⟨h2, by rw [h3]; simp⟩
theorem drawSound_of (hm : P.follows .mixedOrders = true) (hc : CallSound P callf) (hL : LocalF P callf) : DrawSound P callf := by
 intro id ops C st a w C0 h0 w0 K Q hs he h hq rd
 refine wpIn_region_any hm ?_
 have h1 := opsP_recs h
 have hbk : backOk 0 ops.toList = true := by
  obtain ⟨s, r, ⟨⟨h2, _⟩, h3⟩, _⟩ := opsP_live hL h1
  refine (drawOk_ok ?_ h2).1
  rw [h3, List.map_nil, List.nil_append, pairs_map, List.range_eq_range']
  have := congrArg List.length h3
  simp only [List.length_map, List.map_nil, List.nil_append] at this
  rw [this, pairs_len]
 have hle : Le C w C { w with drawn := w.drawn + 1 } := ⟨(fun _ _ h => h), fun _ _ h => h, rfl, fun _ h => h, fun _ _ => rfl⟩
 refine wpAny_ok hc hL hbk (n := st.n) ops.size (L := pairs 0 ops.toList) (U := fun _ => False) (C := C) (rs := []) (st := st) ⟨by simp, pairs_sorted _ _, fun i o => ?_, ?_, fun _ _ h => h⟩ ?_ rfl ⟨hs.slots.mono hle, hs.heap.same rfl, hs.fresh, hs.defers.same rfl⟩ (he.trans (Ext.same C _ rfl rfl rfl rfl)) (opsP_mono h1 fun s r ⟨⟨h2, h4⟩, h3⟩ => (⟨?_, h4⟩ : Aparts (bitsOf ops.toList) r ∧ K s)) (fun _ _ h => h.1) (fun st' rs' C' U' a' w' hn hk hs' he' => hq st' C' U' a' w' hn hk.2 hs' he')
 ·rw [pairs_mem, Nat.sub_zero, Array.getElem?_toList]
  constructor
  ·rintro ⟨_, h2⟩
   have hlt := (Array.getElem?_eq_some_iff.1 h2).1
   refine ⟨h2, ?_⟩
   rw [Array.getD_eq_getD_getElem?, Array.getElem?_replicate, if_pos hlt]
   rfl
  ·rintro ⟨h2, _⟩; exact ⟨Nat.zero_le _, h2⟩
 ·intro j o e h2
  rw [Array.getD_eq_getD_getElem?, Array.getElem?_replicate] at h2
  split at h2 <;> cases h2
 ·rw [pairs_len]
  simp
 ·refine (drawOk_ok ?_ h2).2
  rw [h3, List.map_nil, List.nil_append, pairs_map, List.range_eq_range']
  have := congrArg List.length h3
  simp only [List.length_map, List.map_nil, List.nil_append] at this
  rw [this, pairs_len]
end
theorem callK_sound {P : Program} {ht : Hints} (hn : NoNum P) (hm : P.follows .mixedOrders = true) : ∀ d, CallKOk P ht d
 | 0 => ⟨fun f args h k C w vals hlt hc => (by cases hc), fun key g args h k C w vals hy hc => (by cases hc)⟩
 | d + 1 => callK_step hn (callK_sound hn hm d) (drawSound_of hm (callSound_of hn (callK_sound hn hm d)) (localF_of d))
end AX
namespace AX
open Go.RowKit Go.WideShapes
mutual
def okD : (t : Ty) → t.T → Prop
 | .int k, n => (Lit.int k (i_ n)).wf = true
 | .bool, _ => True
 | .str, s => (s_ s).size ≤ maxLen
 | .sl _ t, xs => (l_ xs).length ≤ maxLen ∧ ∀ x ∈ l_ xs, okD t x
 | .st ts, x => okDs ts x
def okDs : (ts : List Ty) → Ty.Ts ts → Prop
 | [], _ => True
 | t :: r, x => okD t x.1 ∧ okDs r x.2
end
def chkFs (P : Program) (f : TypeId → Bool) : Nat → List Field → Nat → Bool
 | off, [], tot => Nat.beq off tot
 | off, fd :: r, tot => Nat.beq fd.offset off && f fd.type && chkFs P f (off + P.cellsOf fd.type) r tot
def chkTy (P : Program) : Nat → TypeId → Bool
 | 0, _ => false
 | n + 1, t => match P.underlying t with
  | some (.int _) => Nat.beq (P.cellsOf t) 1
  | some .bool => Nat.beq (P.cellsOf t) 1
  | some .string => Nat.beq (P.cellsOf t) 1
  | some (.slice e) => Nat.beq (P.cellsOf t) 1 && chkTy P n e && Nat.blt 0 (P.cellsOf e)
  | some (.struct fs) => chkFs P (chkTy P n) 0 fs.toList (P.cellsOf t)
  | some (.array m e) => chkTy P n e && Nat.beq (P.cellsOf t) (m * P.cellsOf e)
  | _ => false
def allFlat (ts : List Ty) : Prop := ∀ t ∈ ts, isSt t = false
def flatOk : Ty → Prop
 | .st ts => allFlat ts
 | _ => True
theorem flatTy_flat {t : Ty} (h : flatOk t) : allFlat (flatTy t) := by
 cases t <;> first | exact h | (intro u hu; simp only [flatTy, List.mem_singleton] at hu; subst hu; rfl)
theorem flatTy_sz (t : Ty) : (flatTy t).length = t.sz := by cases t <;> rfl
section
variable {w : World} {ok : Nat → Prop}
theorem RepT_int {k : IntKind} {n : Ty.T (.int k)} {cs : List Value} : RepT w ok (.int k) n cs ↔ cs = [.int k (i_ n)] := by rw [RepT]
theorem RepT_bool {n : Ty.T .bool} {cs : List Value} : RepT w ok .bool n cs ↔ cs = [.bool (b_ n)] := by rw [RepT]
theorem RepT_str {n : Ty.T .str} {cs : List Value} : RepT w ok .str n cs ↔ cs = [.string (s_ n)] := by rw [RepT]
theorem RepT_st {ts : List Ty} {x : Ty.T (.st ts)} {cs : List Value} : RepT w ok (.st ts) x cs ↔ RepTs w ok ts x cs := by rw [RepT]
theorem RepT_row {e : TypeId} {t : Ty} {xs : Ty.T (.sl e t)} {cs : List Value} : RepT w ok (.sl e t) xs cs ↔ ∃ A c, cs = [.slice A (l_ xs).length c] ∧ (l_ xs).length ≤ c ∧ (l_ xs = [] ∨ ∃ b o, A = some ⟨b, o, none⟩ ∧ ok b ∧ ∀ j x, (l_ xs)[j]? = some x → ∃ us, RepT w ok t x us ∧ ∀ i u, us[i]? = some u → w.cell? ⟨b, o + (j * t.sz + i), none⟩ = some u) := by rw [RepT]
theorem okD_int {k : IntKind} {n : Ty.T (.int k)} : okD (.int k) n ↔ (Lit.int k (i_ n)).wf = true := by rw [okD]
theorem okD_bool {n : Ty.T .bool} : okD .bool n ↔ True := by rw [okD]
theorem okD_str {n : Ty.T .str} : okD .str n ↔ (s_ n).size ≤ maxLen := by rw [okD]
theorem okD_sl {e : TypeId} {t : Ty} {xs : Ty.T (.sl e t)} : okD (.sl e t) xs ↔ (l_ xs).length ≤ maxLen ∧ ∀ x ∈ l_ xs, okD t x := by rw [okD]
theorem okD_st {ts : List Ty} {x : Ty.T (.st ts)} : okD (.st ts) x ↔ okDs ts x := by rw [okD]
theorem okDs_nil {x : Ty.Ts []} : okDs [] x ↔ True := by rw [okDs]
theorem okDs_cons {t : Ty} {r : List Ty} {x : Ty.Ts (t :: r)} : okDs (t :: r) x ↔ okD t x.1 ∧ okDs r x.2 := by rw [okDs]
end
section
variable {w : World} {ok : Nat → Prop}
theorem repTs_append : ∀ {a b : List Ty} {c d : List Value}, (∃ x : Ty.Ts a, RepTs w ok a x c ∧ okDs a x) → (∃ y : Ty.Ts b, RepTs w ok b y d ∧ okDs b y) → ∃ z : Ty.Ts (a ++ b), RepTs w ok (a ++ b) z (c ++ d) ∧ okDs (a ++ b) z
 | [], b, c, d, ⟨x, h1, _⟩, h2 => by
  rw [RepTs] at h1
  subst h1
  exact h2
 | t :: r, b, c, d, ⟨x, h1, h3⟩, h2 => by
  rw [RepTs] at h1
  obtain ⟨u, q, rfl, h4, h5, h6⟩ := h1
  rw [okDs] at h3
  obtain ⟨z, h7, h8⟩ := repTs_append (a := r) ⟨x.2, h6, h3.2⟩ h2
  refine ⟨(x.1, z), ?_, ?_⟩
  ·exact RepTs_cons.2 ⟨u, q ++ d, rfl, h4, h5, h7⟩
  ·exact okDs_cons.2 ⟨h3.1, h8⟩
theorem repTs_flat {t : Ty} {cs : List Value} (hf : flatOk t) (h : ∃ x : t.T, RepT w ok t x cs ∧ okD t x) : ∃ x : Ty.Ts (flatTy t), RepTs w ok (flatTy t) x cs ∧ okDs (flatTy t) x := by
 obtain ⟨x, h1, h2⟩ := h
 have one : isSt t = false → ∃ z : Ty.Ts [t], RepTs w ok [t] z cs ∧ okDs [t] z := by
  intro hs
  have hl := RepT_len t x cs h1
  have hz : t.sz = 1 := by cases t <;> first | rfl | cases hs
  obtain ⟨v, rfl⟩ := List.length_eq_one_iff.1 (hl.trans hz)
  refine ⟨(x, ()), ?_, ?_⟩
  ·exact RepTs_cons.2 ⟨v, [], rfl, hs, h1, RepTs_nil.2 rfl⟩
  ·exact okDs_cons.2 ⟨h2, okDs_nil.2 trivial⟩
 cases t with
 | st ts =>
  rw [RepT] at h1
  rw [okD] at h2
  exact ⟨x, h1, h2⟩
 | int k => exact one rfl
 | bool => exact one rfl
 | str => exact one rfl
 | sl e t => exact one rfl
end
theorem choose_list {α : Type} {p : Nat → α → Prop} : ∀ (n : Nat), (∀ i, i < n → ∃ y, p i y) → ∃ l : List α, l.length = n ∧ ∀ i y, l[i]? = some y → p i y
 | 0, _ => ⟨[], rfl, fun i y h => by simp at h⟩
 | n + 1, h => by
  obtain ⟨l, hl, hp⟩ := choose_list n (fun i hi => h i (by omega))
  obtain ⟨y, hy⟩ := h n (by omega)
  refine ⟨l ++ [y], by simp [hl], fun i z hz => ?_⟩
  by_cases hi : i < n
  ·rw [List.getElem?_append_left (by omega)] at hz; exact hp i z hz
  ·rw [List.getElem?_append_right (by omega)] at hz
   have : i = n := by
    have := (List.getElem?_eq_some_iff.1 hz).1
    simp at this; omega
   subst this
   rw [hl, Nat.sub_self] at hz
   simp at hz; subst hz; exact hy
theorem add_add (a : Addr) (n m : Nat) (u : Value) {w : World} {base : Nat} {k : Nat} {cs : List Value} (h : w.cells? base (a.add n) k = some cs) (hm : cs[m]? = some u) : w.cell? (a.add (n + m)) = some u := by
 obtain ⟨h1, h2, h3⟩ := World.cells?_some h
 have hmk : m < k := by
  rw [← h2]; exact (List.getElem?_eq_some_iff.1 hm).1
 rw [← hm, ← h3 m hmk]
 congr 1
 cases a with | mk b o s =>
 rcases n with _ | n
 ·simp [Addr.add]
 ·rcases m with _ | m
  ·simp [Addr.add]
  ·simp [Addr.add, Nat.add_assoc]
theorem cell_spot {w : World} {a : Addr} {u : Value} (h : w.cell? a = some u) : a.spot = none ∧ a.block < w.heap.size := by
 unfold World.cell? at h
 split at h
 ·rename_i c _ _ hb
  split at h
  ·cases h
  ·rename_i hs
   refine ⟨by cases hx : a.spot with | none => rfl | some x => rw [hx] at hs; simp at hs, (Array.getElem?_eq_some_iff.1 hb).1⟩
 ·cases h
section
variable {P : Program} {H : Type} {enc : TypeId × Value → H} {w : World} {base : Nat} {spare : Nat → Bool} {held : Bool}
def old (w : World) (b : Nat) : Prop := b < w.heap.size
theorem fields_rep {n : Nat} (ih : ∀ (t : TypeId) (ty : Ty), tyOf P n t = some ty → chkTy P n t = true → P.cellsOf t = ty.sz ∧ flatOk ty ∧ ∀ (fuel : Nat) (cs : List Value) (x : DataW H × List MemPlace), DataW.trod enc P w base spare held fuel t cs = some x → ∃ y : ty.T, RepT w (old w) ty y cs ∧ okD ty y) :
  ∀ (fs : List Field) (off tot : Nat) (l : List Ty), fs.foldr (fun f acc => match tyOf P n f.type, acc with | some u, some l => some (flatTy u ++ l) | _, _ => none) (some []) = some l → chkFs P (chkTy P n) off fs tot = true →
   tot = off + l.length ∧ allFlat l ∧ ∀ (fuel : Nat) (cs : List Value), cs.length = tot → (∀ f ∈ fs, ∃ x, DataW.trod enc P w base spare held fuel f.type ((cs.drop f.offset).take (P.cellsOf f.type)) = some x) → ∃ y : Ty.Ts l, RepTs w (old w) l y (cs.drop off) ∧ okDs l y
 | [], off, tot, l, hl, hc => by
  cases hl
  have : off = tot := by simpa [chkFs] using hc
  subst this
  refine ⟨rfl, fun t ht => (by cases ht), fun fuel cs hcs _ => ⟨(), ?_, okDs_nil.2 trivial⟩⟩
  exact RepTs_nil.2 (List.drop_of_length_le (by omega))
 | f :: r, off, tot, l, hl, hc => by
  rw [List.foldr_cons] at hl
  split at hl
  ·rename_i u l' hu hl'
   cases hl
   rw [chkFs, Bool.and_eq_true, Bool.and_eq_true] at hc
   obtain ⟨⟨ho, hk⟩, hr⟩ := hc
   have ho : f.offset = off := Nat.eq_of_beq_eq_true ho
   obtain ⟨h1, h2, h3⟩ := ih f.type u hu hk
   obtain ⟨h4, h5, h6⟩ := fields_rep ih r (off + P.cellsOf f.type) tot l' hl' hr
   refine ⟨by rw [h4, h1, List.length_append, flatTy_sz]; omega, fun t ht => ?_, fun fuel cs hcs hx => ?_⟩
   ·rcases List.mem_append.1 ht with h | h
    ·exact flatTy_flat h2 t h
    ·exact h5 t h
   ·obtain ⟨x, hx1⟩ := hx f List.mem_cons_self
    obtain ⟨y, hy⟩ := h3 fuel _ x hx1
    have h7 := h6 fuel cs hcs (fun g hg => hx g (List.mem_cons_of_mem _ hg))
    rw [ho] at hy
    have := repTs_append (repTs_flat h2 ⟨y, hy⟩) h7
    rw [← List.drop_drop, List.take_append_drop] at this
    exact this
  ·cases hl
theorem elems_rep {n : Nat} {e : TypeId} {u : Ty} (h1 : P.cellsOf e = u.sz) (h2 : flatOk u) (h3 : ∀ (fuel : Nat) (cs : List Value) (x : DataW H × List MemPlace), DataW.trod enc P w base spare held fuel e cs = some x → ∃ y : u.T, RepT w (old w) u y cs ∧ okD u y) :
  ∀ (m : Nat) (cs : List Value), cs.length = m * u.sz → (∀ i, i < m → ∃ x, DataW.trod enc P w base spare held n e ((cs.drop (i * P.cellsOf e)).take (P.cellsOf e)) = some x) → ∃ y : Ty.Ts ((List.replicate m (flatTy u)).flatten), RepTs w (old w) ((List.replicate m (flatTy u)).flatten) y cs ∧ okDs _ y
 | 0, cs, hl, _ => by
  have : cs = [] := List.eq_nil_of_length_eq_zero (by simpa using hl)
  subst this
  exact ⟨(), RepTs_nil.2 rfl, okDs_nil.2 trivial⟩
 | m + 1, cs, hl, hx => by
  obtain ⟨x, hx1⟩ := hx 0 (by omega)
  rw [Nat.zero_mul, List.drop_zero] at hx1
  obtain ⟨y, hy⟩ := h3 n _ x hx1
  have hr := elems_rep h1 h2 h3 m (cs.drop u.sz) (by rw [List.length_drop, hl, Nat.succ_mul]; omega) (fun i hi => by
   obtain ⟨x, hx2⟩ := hx (i + 1) (by omega)
   refine ⟨x, ?_⟩
   rw [List.drop_drop]
   rw [show u.sz + i * P.cellsOf e = (i + 1) * P.cellsOf e by rw [h1, Nat.succ_mul]; omega]
   exact hx2)
  have := repTs_append (repTs_flat h2 ⟨y, hy⟩) hr
  rw [h1, List.take_append_drop] at this
  rw [List.replicate_succ, List.flatten_cons]
  exact this
theorem trod_rep : ∀ (n : Nat) (t : TypeId) (ty : Ty), tyOf P n t = some ty → chkTy P n t = true → P.cellsOf t = ty.sz ∧ flatOk ty ∧ ∀ (fuel : Nat) (cs : List Value) (x : DataW H × List MemPlace), DataW.trod enc P w base spare held fuel t cs = some x → ∃ y : ty.T, RepT w (old w) ty y cs ∧ okD ty y
 | 0, t, ty, h, _ => by cases h
 | n + 1, t, ty, h, hc => by
  rw [tyOf] at h
  rw [chkTy] at hc
  cases ht : P.underlying t with
  | none => rw [ht] at h; cases h
  | some d =>
   rw [ht] at h hc
   cases d with
   | int k =>
    cases h
    refine ⟨Nat.eq_of_beq_eq_true hc, trivial, fun fuel cs x hx => ?_⟩
    obtain ⟨m, rfl, _, hw⟩ := DataW.trod_int ht hx
    exact ⟨m, RepT_int.2 rfl, okD_int.2 hw⟩
   | bool =>
    cases h
    refine ⟨Nat.eq_of_beq_eq_true hc, trivial, fun fuel cs x hx => ?_⟩
    obtain ⟨b, rfl, _⟩ := DataW.trod_bool ht hx
    exact ⟨b, RepT_bool.2 rfl, okD_bool.2 trivial⟩
   | string =>
    cases h
    refine ⟨Nat.eq_of_beq_eq_true hc, trivial, fun fuel cs x hx => ?_⟩
    obtain ⟨s, rfl, _, hs⟩ := DataW.trod_string ht hx
    exact ⟨s, RepT_str.2 rfl, okD_str.2 hs⟩
   | slice e =>
    simp only at h hc
    split at h
    ·rename_i u hu
     cases h
     rw [Bool.and_eq_true, Bool.and_eq_true] at hc
     obtain ⟨⟨hc1, hc2⟩, hc3⟩ := hc
     obtain ⟨h1, h2, h3⟩ := trod_rep n e u hu hc2
     have hpos : 0 < u.sz := by rw [← h1]; simpa using hc3
     refine ⟨Nat.eq_of_beq_eq_true hc1, trivial, fun fuel cs x hx => ?_⟩
     rcases Go.Deep.open_slice ht hx with ⟨rfl, _⟩ | ⟨a, len, cap, m, k, D, Pl, rfl, hb, hl, hm, hmm, _, hx⟩
     ·refine ⟨([] : List u.T), ?_, ?_⟩
      ·exact RepT_row.2 ⟨none, 0, rfl, Nat.le_refl _, .inl rfl⟩
      ·exact okD_sl.2 ⟨Nat.zero_le _, fun x hx => by cases hx⟩
     ·have hlm : len ≤ m := by rw [hmm]; split <;> omega
      obtain ⟨l, hll, hp⟩ := choose_list (p := fun i y => (∃ c, RepT w (old w) u y c ∧ ∀ j v, c[j]? = some v → w.cell? (a.add (i * u.sz + j)) = some v) ∧ okD u y) len (fun i hi => by
       obtain ⟨cs', g1, g2⟩ := hx i (by omega)
       obtain ⟨y, hy, ho⟩ := h3 k cs' _ g2
       rw [h1] at g1
       exact ⟨y, ⟨cs', hy, fun j v hj => add_add a _ _ v g1 hj⟩, ho⟩)
      subst hll
      refine ⟨l, ?_, ?_⟩
      ·refine RepT_row.2 ⟨some a, cap, rfl, hl, ?_⟩
       cases l with
       | nil => exact .inl rfl
       | cons z q =>
        right
        obtain ⟨⟨c, hc, hj⟩, _⟩ := hp 0 z rfl
        have hcl := RepT_len u z c hc
        obtain ⟨v, hv⟩ : ∃ v, c[0]? = some v := ⟨c[0], List.getElem?_eq_getElem (by omega)⟩
        have h0 := hj 0 v hv
        rw [Nat.zero_mul, Nat.zero_add, show a.add 0 = a from rfl] at h0
        obtain ⟨hs, hlt⟩ := cell_spot h0
        obtain ⟨b, o, s⟩ := a
        simp only at hs
        subst hs
        refine ⟨b, o, rfl, hlt, fun j x hjx => ?_⟩
        obtain ⟨⟨us, h7, h8⟩, _⟩ := hp j x hjx
        refine ⟨us, h7, fun i v hi => ?_⟩
        have := h8 i v hi
        unfold Addr.add at this
        split at this
        ·rename_i hz; rw [hz, Nat.add_zero]; exact this
        ·exact this
      ·refine okD_sl.2 ⟨?_, fun y hy => ?_⟩
       ·show l.length ≤ maxLen
        omega
       ·obtain ⟨i, hi⟩ := List.getElem?_of_mem hy
        exact (hp i y hi).2
    ·cases h
   | struct fs =>
    simp only at h hc
    split at h
    ·rename_i l hl
     cases h
     obtain ⟨h1, h2, h3⟩ := fields_rep (enc := enc) (w := w) (base := base) (spare := spare) (held := held) (fun t ty a b => trod_rep n t ty a b) fs.toList 0 _ l hl hc
     refine ⟨by rw [h1, Nat.zero_add]; rfl, h2, fun fuel cs x hx => ?_⟩
     obtain ⟨xs, m, rfl, _, hcl, hxl, hfi⟩ := DataW.trod_struct ht hx
     obtain ⟨y, hy⟩ := h3 m cs hcl (fun g hg => by
      obtain ⟨i, hi⟩ := List.getElem?_of_mem hg
      have hi' : fs[i]? = some g := by rw [← Array.getElem?_toList]; exact hi
      have hlt : i < xs.length := by
       rw [hxl]; exact (Array.getElem?_eq_some_iff.1 hi').1
      exact ⟨xs[i], by rw [hfi i g hi', List.getElem?_eq_getElem hlt]⟩)
     rw [List.drop_zero] at hy
     exact ⟨y, RepT_st.2 hy.1, okD_st.2 hy.2⟩
    ·cases h
   | array m e =>
    simp only at h hc
    split at h
    ·rename_i u hu
     cases h
     rw [Bool.and_eq_true] at hc
     obtain ⟨h1, h2, h3⟩ := trod_rep n e u hu hc.1
     have hsz : P.cellsOf t = m * P.cellsOf e := Nat.eq_of_beq_eq_true hc.2
     have hlen : ((List.replicate m (flatTy u)).flatten).length = m * u.sz := by
      rw [List.length_flatten, List.map_replicate, List.sum_replicate_nat, flatTy_sz]
     refine ⟨by rw [hsz, h1]; exact hlen.symm, ?_, fun fuel cs x hx => ?_⟩
     ·intro t ht
      obtain ⟨l, hl, htl⟩ := List.mem_flatten.1 ht
      rw [List.mem_replicate] at hl
      rw [hl.2] at htl
      exact flatTy_flat h2 t htl
     ·obtain ⟨xs, k, rfl, _, hcl, hxl, hfi⟩ := DataW.trod_array ht hx
      obtain ⟨y, hy⟩ := elems_rep (n := k) h1 h2 h3 m cs (by rw [hcl, hsz, h1]) (fun i hi => ⟨xs[i]'(by omega), by rw [hfi i hi, List.getElem?_eq_getElem]⟩)
      exact ⟨y, RepT_st.2 hy.1, okD_st.2 hy.2⟩
    ·cases h
   | _ => cases h
end
end AX
namespace AX
open Go.RowKit Go.WideShapes Go.ChangeShapes
def argA : DV → AV
 | ⟨.sl e ty, xs⟩ => .bv 0 e ty (l_ xs)
 | ⟨.int k, n⟩ => .d ⟨.int k, n⟩
 | ⟨.bool, b⟩ => .d ⟨.bool, b⟩
 | ⟨.str, s⟩ => .d ⟨.str, s⟩
 | ⟨.st ts, x⟩ => .d ⟨.st ts, x⟩
def fin : AV → Heap → Option Bool
 | .d ⟨.bool, b⟩, _ => some (b_ b)
 | _, _ => none
def topC (w : World) : Ctx := ⟨fun _ => none, fun _ => none, old w, ⟨0, fun _ => none⟩⟩
def typesOf (P : Program) : List TypeId → Option (List Ty)
 | [] => some []
 | t :: r => match chkTy P DEPTH t, tyOf P DEPTH t, typesOf P r with
  | true, some u, some l => some (u :: l)
  | _, _, _ => none
def numOk (P : Program) : Bool := P.funcs.all fun fn => fn.body.isNone || !(fn.name == "runtime.NumGoroutine")
theorem noNum_of {P : Program} (h : numOk P = true) : NoNum P := by
 intro f fn hf hb
 unfold numOk at h
 rw [Array.all_eq_true_iff_forall_mem] at h
 have := h fn (Array.mem_of_getElem? hf)
 rw [hb] at this
 simpa using this
section
variable {P : Program} {H : Type} {enc : TypeId × Value → H} {W : World} {base : Nat} {spare : Nat → Bool} {held : Bool}
theorem okWide_one {r : Reach} {b0 : Nat} {t : TypeId} {ty : Ty} {v : Value} (ht : tyOf P DEPTH t = some ty) (hv : Value.okWide P W r b0 t v) : (isSt ty = true ∧ ∃ cs, v = .agg cs) ∨ (isSt ty = false ∧ v.cells = #[v]) := by
 unfold DEPTH at ht
 rw [tyOf] at ht
 cases hu : P.underlying t with
 | none => rw [hu] at ht; cases ht
 | some d =>
  rw [hu] at ht
  cases d with
  | int k =>
   cases ht
   obtain ⟨n, rfl⟩ := okWide_int hu hv
   exact .inr ⟨rfl, rfl⟩
  | bool =>
   cases ht
   obtain ⟨n, rfl⟩ := okWide_bool hu hv
   exact .inr ⟨rfl, rfl⟩
  | string =>
   cases ht
   obtain ⟨n, rfl⟩ := okWide_string hu hv
   exact .inr ⟨rfl, rfl⟩
  | slice e =>
   simp only at ht
   split at ht
   ·cases ht
    obtain ⟨a, l, c, rfl⟩ := okWide_slice hu hv
    exact .inr ⟨rfl, rfl⟩
   ·cases ht
  | struct fs =>
   simp only at ht
   split at ht
   ·cases ht
    simp only [Value.okWide, hu] at hv
    obtain ⟨cs, h, _⟩ := hv
    exact .inl ⟨rfl, cs, h⟩
   ·cases ht
  | array m e =>
   simp only at ht
   split at ht
   ·cases ht
    simp only [Value.okWide, hu] at hv
    obtain ⟨cs, h, _⟩ := hv
    exact .inl ⟨rfl, cs, h⟩
   ·cases ht
  | _ => cases ht
theorem arg_rep {r : Reach} {b0 : Nat} {t : TypeId} {ty : Ty} {v : Value} {d : DataW H} {ps : List MemPlace} (ht : tyOf P DEPTH t = some ty) (hc : chkTy P DEPTH t = true) (hv : Value.okWide P W r b0 t v) (hd : DataW.Trod enc P W base spare held t v d ps) :
  ∃ y : ty.T, RepA (topC W) W (argA ⟨ty, y⟩) v ∧ okD ty y := by
 obtain ⟨fuel, hd⟩ := hd
 obtain ⟨_, _, h⟩ := trod_rep (enc := enc) (w := W) (base := base) (spare := spare) (held := held) DEPTH t ty ht hc
 obtain ⟨y, h1, h2⟩ := h fuel _ _ hd
 refine ⟨y, ?_, h2⟩
 have hrep : RepD W (old W) ⟨ty, y⟩ v := by
  refine ⟨_, h1, ?_⟩
  rcases okWide_one ht hv with ⟨h3, cs, rfl⟩ | ⟨h3, h4⟩
  ·simp only [h3]
   simp [Value.cells]
  ·simp only [h3]
   rw [h4]
 cases ty with
 | sl e u => exact RepA_bv.2 (RepA_sl.1 (RepA_d.2 hrep))
 | int k => exact RepA_d.2 hrep
 | bool => exact RepA_d.2 hrep
 | str => exact RepA_d.2 hrep
 | st ts => exact RepA_d.2 hrep
theorem args_rep : ∀ (ts : List TypeId) (tys : List Ty) (vs : List Value) (ds : List (DataW H)) (ps : List MemPlace), typesOf P ts = some tys → (∀ (j : Nat) t v, ts[j]? = some t → vs[j]? = some v → ∃ r b0, Value.okWide P W r b0 t v) → DataW.TrodAll enc P W base spare held ts vs ds ps →
  ∃ x : Ty.Ts tys, RepL (topC W) W ((cellsT tys x).map argA) vs ∧ okDs tys x
 | [], tys, vs, ds, ps, ht, _, h => by
  cases ht
  obtain ⟨rfl, _, _⟩ := trodAll_nil h
  exact ⟨(), RepL_nil.2 rfl, okDs_nil.2 trivial⟩
 | t :: r, tys, vs, ds, ps, ht, hv, h => by
  rw [typesOf] at ht
  split at ht
  ·rename_i u l hc hu hl
   cases ht
   obtain ⟨v, vs', d, ds', p, q, rfl, rfl, rfl, h1, h2⟩ := trodAll_cons h
   obtain ⟨r0, b0, hv0⟩ := hv 0 t v rfl rfl
   obtain ⟨y, h3, h4⟩ := arg_rep hu hc hv0 h1
   obtain ⟨x, h5, h6⟩ := args_rep r l vs' ds' q hl (fun j t v h1 h2 => hv (j + 1) t v h1 h2) h2
   exact ⟨(y, x), RepL_cons.2 ⟨v, vs', rfl, h3, h5⟩, okDs_cons.2 ⟨h4, h6⟩⟩
  ·cases ht
theorem law_calls {ht : Hints} {d : Nat} {f : FuncId} (hn : numOk P = true) (hm : P.follows .mixedOrders = true) {ts : List TypeId} {tys : List Ty} {args : Array Value} {ds : List (DataW H)} {ps : List MemPlace} (htys : typesOf P ts = some tys)
  (pure : ∀ x : Ty.Ts tys, okDs tys x → callK P ht d f ((cellsT tys x).map argA) [] fin = some true)
  (hv : ∀ (j : Nat) t v, ts[j]? = some t → args.toList[j]? = some v → ∃ r b0, Value.okWide P W r b0 t v) (hd : DataW.TrodAll enc P W base spare held ts args.toList ds ps) (hf : Nat.blt f RND = true := by rfl) :
  Calls P f args W fun e W' => e = .returned (.bool true) ∧ Below W.heap.size W W' := by
 obtain ⟨x, h1, h2⟩ := args_rep ts tys args.toList ds ps htys hv hd
 have hs : HSim (topC W) (hget []) W := ⟨fun id o h => (by simp [hget] at h), fun id id' o o' l l' b h => (by simp [hget] at h), fun id o l b h => (by simp [hget] at h), fun b hb => by
  rcases hb with hb | ⟨t, hb⟩
  ·exact hb
  ·cases hb⟩
 refine Calls.mono ((callK_sound (noNum_of hn) hm d).1 f _ [] fin (topC W) W args (Nat.blt_eq.mp hf) (pure x h2) h1 hs (fun id l h => by cases h) Recs.none) fun r w' hr => ?_
 obtain ⟨v, res, h', C', rfl, h3, h4, _, h5⟩ := hr
 have h6 : v = .bool true := by
  unfold fin at h3
  split at h3
  ·have h7 := RepA_bool.1 h4
   rw [h7]
   exact congrArg Value.bool (Option.some.inj h3)
  ·cases h3
 subst h6
 refine ⟨rfl, h5.os, h5.tape, h5.output, h5.size, fun k hk => h5.frame k hk ?_⟩
 rintro ⟨id, o, l, h7, _⟩
 simp [hget] at h7
theorem trodAll_stay (hl : laidOutB P = true) {W' : World} (hb : Below W.heap.size W W') : ∀ {ts : List TypeId} {vs : List Value} {ds : List (DataW H)} {ps : List MemPlace}, (ts.all fun t => P.readableRec t && decide (t < P.types.size)) = true → DataW.TrodAll enc P W 0 (fun _ => true) true ts vs ds ps → DataW.TrodAll enc P W' 0 (fun b => decide (b < W.heap.size)) true ts vs ds ps
 | [], vs, ds, ps, _, h => by
  obtain ⟨rfl, rfl, rfl⟩ := trodAll_nil h
  exact trodAll_mk0
 | t :: r, vs, ds, ps, ht, h => by
  obtain ⟨v, vs', d, ds', p, q, rfl, rfl, rfl, h1, h2⟩ := trodAll_cons h
  rw [List.all_cons, Bool.and_eq_true, Bool.and_eq_true] at ht
  refine trodAll_cons_mk (Below.trod hl ht.1.1 (of_decide_eq_true ht.1.2) h1 hb ?_) (trodAll_stay hl hb ht.2 h2)
  obtain ⟨m, hm⟩ := h1
  exact DataW.trod_lt m _ _ _ hm
end
end AX
namespace AX
abbrev KE := Ex → St → Option Bool
abbrev KR := AV → Heap → Option Bool
def KLe (k k' : KE) : Prop := ∀ e st, k e st = some true → k' e st = some true
def RLe (k k' : KR) : Prop := ∀ r h, k r h = some true → k' r h = some true
def CallRef (callf callf' : CallF) : Prop := ∀ st me f xs k k', (∀ e ft, k e ft = some true → k' e ft = some true) → callf st me f xs k = some true → callf' st me f xs k' = some true
def RecRef (rec rec' : RecF) : Prop := ∀ g a h k k', RLe k k' → rec g a h k = some true → rec' g a h k' = some true
abbrev LoopF := Nat → Option (St → KE → Option Bool)
def lookK (d : Nat) : List (Nat × Bool) → Option Bool
 | [] => none
 | (c, v) :: r => match Nat.beq d c with
  | true => some v
  | false => lookK d r
def dropK (d : Option Nat) (kn : List (Nat × Bool)) : List (Nat × Bool) := match d with
 | none => kn
 | some d => kn.filter fun p => !Nat.beq d p.1
def extK (st : St) (d : Nat) (v : Bool) (kn : List (Nat × Bool)) : List (Nat × Bool) := match st.sl.getD d .undef with
 | .d ⟨.bool, _⟩ => (d, v) :: kn
 | _ => kn
def guardTmp (all : Array Oper) (o : Oper) : Option (Nat × Bool) := match o.guard with
 | none => none
 | some (j, want) => match (all[j]?).bind (·.dst) with
  | some d => some (d, want)
  | none => none
def pickK (kn : List (Nat × Bool)) : Operand → Option Bool
 | .tmp d => lookK d kn
 | _ => none
def casesN : Nat → Nat → Int → (Int → Option Bool) → Option Bool
 | 0, _, _, _ => none
 | m + 1, c, n, f => cond_ (n == (c : Int)) (f (c : Int)) (casesN m (c + 1) n f)
def splitOf (st : St) (x i : Operand) : Option (Nat × Nat) := match i with
 | .tmp s => match evalA st.sl x with
  | .ptr id 0 0 => match hget st.hp id with
   | some ⟨_, _, .mix xs⟩ => match Nat.ble 2 xs.length with
    | true => some (s, xs.length)
    | false => none
   | _ => none
  | .ref id => match hget st.hp id with
   | some ⟨_, _, .mix xs⟩ => some (s, xs.length)
   | _ => none
  | _ => none
 | _ => none
def plainG (P : Program) (all : Array Oper) (sl0 sl : List AV) (st : St) (i : Nat) (o : Oper) (K : Eff → Rec → Option Bool) : Option Bool := match stepE P sl st.hp [st.n, i] o with
 | some e => cond_ e.ok (K e (recE all sl0 o e)) none
 | none => none
def stepG (P : Program) (callf : CallF) (all : Array Oper) (kn : List (Nat × Bool)) (st : St) (i : Nat) (o : Oper) (K : Eff → Rec → Option Bool) : Option Bool := match o.op with
 | .pick c x y => match pickK kn c with
  | some true => K ⟨true, evalA st.sl x, [], []⟩ (rec0 all o)
  | some false => K ⟨true, evalA st.sl y, [], []⟩ (rec0 all o)
  | none => match evalA st.sl c with
   | .d ⟨.bool, t⟩ => match evalA st.sl x, evalA st.sl y with
    | .d ⟨.bool, u⟩, .d ⟨.bool, v⟩ => K ⟨true, vb (match b_ t with | true => b_ u | false => b_ v), [], []⟩ (rec0 all o)
    | x, y => cond_ (b_ t) (K ⟨true, x, [], []⟩ (rec0 all o)) (K ⟨true, y, [], []⟩ (rec0 all o))
   | _ => none
 | .call ⟨.value f, args, _⟩ => callf st [st.n, i] (evalA st.sl f) (args.toList.map (evalA st.sl)) fun e foot => K e (recC all o e foot)
 | .indexAddr _ x j => match splitOf st x j with
  | some (s, m) => match st.sl.getD s .undef with
   | .d ⟨.int k, n⟩ => casesN m 0 (i_ n) fun c => plainG P all st.sl (st.sl.set s (vi k c)) st i o K
   | _ => none
  | none => plainG P all st.sl st.sl st i o K
 | _ => plainG P all st.sl st.sl st i o K
def opsG (P : Program) (callf : CallF) (all : Array Oper) : Nat → List Oper → List (Nat × Bool) → St → List Rec → (St → List Rec → Option Bool) → Option Bool
 | _, [], _, st, rs, k => k st rs
 | i, o :: rest, kn, st, rs, k => match guardTmp all o with
  | none => match wantedA all st o with
   | some true => stepG P callf all kn st i o fun e r => opsG P callf all (i + 1) rest (dropK o.dst kn) (apply st o e) (rs ++ [r]) k
   | _ => none
  | some (d, want) => match lookK d kn with
   | some v => match v == want with
    | true => stepG P callf all kn st i o fun e r => opsG P callf all (i + 1) rest (dropK o.dst kn) (apply st o e) (rs ++ [r]) k
    | false => opsG P callf all (i + 1) rest (dropK o.dst kn) (apply st o ⟨true, .undef, [], []⟩) (rs ++ [rec0 all o]) k
   | none => match wantedA all st o with
    | some b => cond_ b (stepG P callf all (extK st d want kn) st i o fun e r => opsG P callf all (i + 1) rest (dropK o.dst (extK st d want kn)) (apply st o e) (rs ++ [r]) k)
     (opsG P callf all (i + 1) rest (dropK o.dst (extK st d (!want) kn)) (apply st o ⟨true, .undef, [], []⟩) (rs ++ [rec0 all o]) k)
    | none => none
def execL (P : Program) (ht : Hints) (f : FuncId) (callf : CallF) (loopf : LoopF) : Nat → Code → St → KE → Option Bool
 | _, .skip, st, k => k .normal st
 | _, .label _, st, k => k .normal st
 | _, .region _ ops draw, st, k => opsG P callf ops 0 ops.toList [] st [] fun st rs => match draw with
  | false => k .normal ⟨st.sl, st.hp, st.n + 1⟩
  | true => match drawOk ops rs with
   | true => k .normal ⟨st.sl, st.hp, st.n + 1⟩
   | false => none
 | b, .seq x y, st, k => execL P ht f callf loopf b x st fun e st => match e with
  | .normal => execL P ht f callf loopf b y st k
  | .exit id => k (.exit id) st
  | .ret => k .ret st
 | b, .cond c x y, st, k => match evalA st.sl c with
  | .d ⟨.bool, t⟩ => cond_ (b_ t) (execL P ht f callf loopf b x st k) (execL P ht f callf loopf b y st k)
  | .nt may yes => cond_ may (meet (execL P ht f callf loopf b x st k) (execL P ht f callf loopf b y st k)) (match yes with | true => execL P ht f callf loopf b y st k | false => execL P ht f callf loopf b x st k)
  | _ => none
 | _, .block id c, st, k => execL P ht f callf loopf id c st fun e st => match e with
  | .exit id' => match Nat.beq id' id with
   | true => k .normal st
   | false => k (.exit id') st
  | .normal => k .normal (plan P (ht f (BEHIND + id)) st)
  | .ret => k .ret st
 | b, .loop c, st, k => match loopf b with
  | some lf => lf (plan P (ht f b) st) k
  | none => iter ROUNDS (plan P (ht f b)) (fun st k => execL P ht f callf loopf b c st k) (plan P (ht f b) st) k
 | _, .exit id, st, k => k (.exit id) (plan P (ht f (BEHIND + id)) st)
 | _, .ret, st, k => k .ret (plan P (ht f ATRET) st)
 | b, .rangeFunc g _ x y, st, k => rangeK P f callf b g x y st (k .normal)
 | _, _, _, _ => none
def loopsOf (loopf : LoopF) : Nat → Code → List (Nat × Code)
 | b, .seq x y => loopsOf loopf b x ++ loopsOf loopf b y
 | b, .cond _ x y => loopsOf loopf b x ++ loopsOf loopf b y
 | _, .block id c => loopsOf loopf id c
 | b, .loop c => match loopf b with
  | some _ => [(b, c)]
  | none => loopsOf loopf b c
 | _, _ => []
def codeOf (fn : Func) : Code := match fn.body with
 | some c => c
 | none => .skip
def findL (b : Nat) : Nat → Code → Option Code
 | p, .seq x y => match findL b p x with
  | some c => some c
  | none => findL b p y
 | p, .cond _ x y => match findL b p x with
  | some c => some c
  | none => findL b p y
 | _, .block id c => findL b id c
 | p, .loop c => match Nat.beq p b with
  | true => some c
  | false => findL b p c
 | _, _ => none
def loopAt (b : Nat) (c : Code) : Code := match findL b 0 c with
 | some c => c
 | none => .skip
section
variable {P : Program} {ht : Hints} {callf callf' : CallF} {all : Array Oper}
def stepK (P : Program) (callf : CallF) (all : Array Oper) (st : St) (i : Nat) (o : Oper) (K : Eff → Rec → Option Bool) : Option Bool := match o.op with
 | .pick c x y => match evalA st.sl c with
  | .d ⟨.bool, t⟩ => match evalA st.sl x, evalA st.sl y with
   | .d ⟨.bool, u⟩, .d ⟨.bool, v⟩ => K ⟨true, vb (match b_ t with | true => b_ u | false => b_ v), [], []⟩ (rec0 all o)
   | x, y => cond_ (b_ t) (K ⟨true, x, [], []⟩ (rec0 all o)) (K ⟨true, y, [], []⟩ (rec0 all o))
  | _ => none
 | .call ⟨.value f, args, _⟩ => callf st [st.n, i] (evalA st.sl f) (args.toList.map (evalA st.sl)) fun e foot => K e (recC all o e foot)
 | _ => match stepE P st.sl st.hp [st.n, i] o with
  | some e => cond_ e.ok (K e (recE all st.sl o e)) none
  | none => none
theorem opsK_nil {i : Nat} {st : St} {rs : List Rec} {k : St → List Rec → Option Bool} : opsK P callf all i [] st rs k = k st rs := by rw [opsK]
theorem opsK_cons {o : Oper} {rest : List Oper} {i : Nat} {st : St} {rs : List Rec} {k : St → List Rec → Option Bool} : opsK P callf all i (o :: rest) st rs k = match wantedA all st o with
  | some b => cond_ b (stepK P callf all st i o fun e r => opsK P callf all (i + 1) rest (apply st o e) (rs ++ [r]) k) (opsK P callf all (i + 1) rest (apply st o ⟨true, .undef, [], []⟩) (rs ++ [rec0 all o]) k)
  | none => none := by
 rw [opsK]
 rfl
theorem stepK_ref (hc : CallRef callf callf') {st : St} {i : Nat} {o : Oper} {K K' : Eff → Rec → Option Bool} (hk : ∀ e r, K e r = some true → K' e r = some true) (h : stepK P callf all st i o K = some true) : stepK P callf' all st i o K' = some true := by
 unfold stepK at h ⊢
 split at h
 ·split at h
  ·rename_i t ht
   try simp only [ht]
   split at h
   ·exact hk _ _ h
   ·rcases cond_true h with ⟨h1, h⟩ | ⟨h1, h⟩
    ·rw [h1]; exact hk _ _ h
    ·rw [h1]; exact hk _ _ h
  ·cases h
 ·exact hc _ _ _ _ _ _ (fun e ft he => hk _ _ he) h
 ·split at h
  ·rename_i e he
   (try simp only [he])
   rcases cond_true h with ⟨h1, h⟩ | ⟨h1, h⟩
   ·rw [h1]; exact hk _ _ h
   ·cases h
  ·cases h
theorem opsK_ref (hc : CallRef callf callf') : ∀ {ops : List Oper} {i : Nat} {st : St} {rs : List Rec} {k k' : St → List Rec → Option Bool}, (∀ s r, k s r = some true → k' s r = some true) → opsK P callf all i ops st rs k = some true → opsK P callf' all i ops st rs k' = some true
 | [], i, st, rs, k, k', hk, h => by rw [opsK_nil] at h ⊢; exact hk _ _ h
 | o :: rest, i, st, rs, k, k', hk, h => by
  rw [opsK_cons] at h ⊢
  split at h
  ·rcases cond_true h with ⟨hb, h1⟩ | ⟨hb, h1⟩
   ·subst hb
    exact stepK_ref hc (fun e r he => opsK_ref hc hk he) h1
   ·subst hb
    exact opsK_ref hc hk h1
  ·cases h
def Knows (kn : List (Nat × Bool)) (st : St) : Prop := ∀ d v, lookK d kn = some v → ∃ t : Ty.T .bool, st.sl.getD d .undef = .d ⟨.bool, t⟩ ∧ b_ t = v
theorem lookK_filter {d e : Nat} {v : Bool} : ∀ {kn : List (Nat × Bool)}, lookK d (kn.filter fun p => !Nat.beq e p.1) = some v → d ≠ e ∧ lookK d kn = some v
 | [], h => by cases h
 | (c, u) :: r, h => by
  rw [List.filter_cons] at h
  split at h
  ·rename_i hc
   rw [lookK] at h ⊢
   split at h
   ·rename_i hd
    have hd := Nat.eq_of_beq_eq_true hd
    subst hd
    refine ⟨fun hde => ?_, h⟩
    subst hde
    simp at hc
   ·exact lookK_filter h
  ·rename_i hc
   obtain ⟨h1, h2⟩ := lookK_filter h
   refine ⟨h1, ?_⟩
   rw [lookK]
   split
   ·rename_i hd
    have hd := Nat.eq_of_beq_eq_true hd
    subst hd
    simp at hc
    exact absurd hc.symm h1
   ·exact h2
theorem Knows.apply {kn : List (Nat × Bool)} {st : St} (h : Knows kn st) (o : Oper) (e : Eff) : Knows (dropK o.dst kn) (apply st o e) := by
 intro d v hd
 unfold dropK at hd
 cases ho : o.dst with
 | none =>
  rw [ho] at hd
  rw [apply_get (by rw [ho]; exact fun h => by cases h)]
  exact h d v hd
 | some x =>
  rw [ho] at hd
  obtain ⟨h1, h2⟩ := lookK_filter hd
  rw [apply_get (by rw [ho]; exact fun h => h1 (Option.some.inj h).symm)]
  exact h d v h2
theorem guard_wanted {st : St} {o : Oper} {d : Nat} {want : Bool} (h : guardTmp all o = some (d, want)) : wantedA all st o = match (generalizing := false) st.sl.getD d .undef with
  | .d ⟨.bool, b⟩ => some (match (generalizing := false) want with | true => b_ b | false => !(b_ b))
  | .undef => some false
  | _ => none := by
 unfold guardTmp at h
 unfold wantedA
 cases hg : o.guard with
 | none => rw [hg] at h; cases h
 | some p =>
  obtain ⟨j, w⟩ := p
  rw [hg] at h
  simp only at h ⊢
  cases hd : (all[j]?).bind (·.dst) with
  | none => rw [hd] at h; cases h
  | some x => rw [hd] at h; cases h; rfl
theorem Knows.ext {kn : List (Nat × Bool)} {st : St} (h : Knows kn st) {o : Oper} {d : Nat} {want b : Bool} (hg : guardTmp all o = some (d, want)) (hw : wantedA all st o = some b) : Knows (extK st d (match b with | true => want | false => !want) kn) st := by
 rw [guard_wanted hg] at hw
 intro x v hx
 unfold extK at hx
 split at hx
 ·rename_i t ht
  rw [lookK] at hx
  split at hx
  ·rename_i hd
   have hd := Nat.eq_of_beq_eq_true hd
   subst hd
   cases hx
   rw [ht] at hw ⊢
   refine ⟨t, rfl, ?_⟩
   have := Option.some.inj hw
   cases want <;> cases b <;> simp_all
  ·exact h x v hx
 ·exact h x v hx
theorem casesN_true {f : Int → Option Bool} : ∀ {m c : Nat} {n : Int}, casesN m c n f = some true → f n = some true
 | 0, c, n, h => by cases h
 | m + 1, c, n, h => by
  rw [casesN] at h
  rcases cond_true h with ⟨h1, h⟩ | ⟨h1, h⟩
  ·have : n = (c : Int) := by simpa using h1
   rw [this]; exact h
  ·exact casesN_true h
theorem set_same {α : Type} {z : α} : ∀ {l : List α} {s : Nat} {x : α}, l.getD s z = x → (s < l.length ∨ x = z) → l.set s x = l
 | [], s, x, _, _ => rfl
 | y :: r, 0, x, h, _ => by
  have : y = x := h
  rw [List.set_cons_zero, this]
 | y :: r, s + 1, x, h, hl => by
  rw [List.set_cons_succ, set_same (l := r) (s := s) (x := x) h (by rcases hl with hl | hl; exact .inl (Nat.lt_of_succ_lt_succ hl); exact .inr hl)]
theorem plainG_ok {st : St} {i : Nat} {o : Oper} {K : Eff → Rec → Option Bool} (h1 : ∀ c x y, o.op ≠ .pick c x y) (h2 : ∀ f a e, o.op ≠ .call ⟨.value f, a, e⟩) (h : plainG P all st.sl st.sl st i o K = some true) : stepK P callf all st i o K = some true := by
 unfold plainG at h
 unfold stepK
 split
 ·rename_i hop; exact absurd hop (h1 _ _ _)
 ·rename_i hop; exact absurd hop (h2 _ _ _)
 ·exact h
theorem stepG_ok {kn : List (Nat × Bool)} {st : St} (hk : Knows kn st) {i : Nat} {o : Oper} {K : Eff → Rec → Option Bool} (h : stepG P callf all kn st i o K = some true) : stepK P callf all st i o K = some true := by
 unfold stepG at h
 split at h
 ·rename_i c x y hop
  unfold stepK
  simp only [hop]
  split at h
  ·rename_i hp
   unfold pickK at hp
   split at hp
   ·rename_i d
    obtain ⟨t, h1, h2⟩ := hk d _ hp
    have hc : evalA st.sl (.tmp d) = .d ⟨.bool, t⟩ := h1
    simp only [hc, h2]
    split
    ·rename_i u v hx hy
     rw [hx] at h
     exact h
    ·exact h
   ·cases hp
  ·rename_i hp
   unfold pickK at hp
   split at hp
   ·rename_i d
    obtain ⟨t, h1, h2⟩ := hk d _ hp
    have hc : evalA st.sl (.tmp d) = .d ⟨.bool, t⟩ := h1
    simp only [hc, h2]
    split
    ·rename_i u v hx hy
     rw [hy] at h
     exact h
    ·exact h
   ·cases hp
  ·exact h
 ·rename_i hop
  unfold stepK
  simp only [hop]
  exact h
 ·rename_i t x j hop
  have h1 : ∀ c x y, o.op ≠ .pick c x y := fun c x y e => by rw [hop] at e; cases e
  have h2 : ∀ f a e, o.op ≠ .call ⟨.value f, a, e⟩ := fun f a e e2 => by rw [hop] at e2; cases e2
  split at h
  ·rename_i s m hs
   split at h
   ·rename_i k n hn
    have h := casesN_true h
    have e : st.sl.set s (vi k (i_ n)) = st.sl := by
     refine set_same (z := .undef) hn ?_
     by_cases hl : s < st.sl.length
     ·exact .inl hl
     ·rw [List.getD_eq_getElem?_getD, List.getElem?_eq_none (by omega)] at hn
      cases hn
    rw [e] at h
    exact plainG_ok h1 h2 h
   ·cases h
  ·exact plainG_ok h1 h2 h
 ·rename_i h1 h2 _
  exact plainG_ok (fun c x y => h1 c x y) (fun f a e => h2 f a e) h
theorem opsG_ref (hc : CallRef callf callf') : ∀ {ops : List Oper} {i : Nat} {kn : List (Nat × Bool)} {st : St} {rs : List Rec} {k k' : St → List Rec → Option Bool}, (∀ s r, k s r = some true → k' s r = some true) → Knows kn st → opsG P callf all i ops kn st rs k = some true → opsK P callf' all i ops st rs k' = some true
 | [], i, kn, st, rs, k, k', hkk, hk, h => by rw [opsK_nil]; rw [opsG] at h; exact hkk _ _ h
 | o :: rest, i, kn, st, rs, k, k', hkk, hk, h => by
  rw [opsK_cons]
  rw [opsG] at h
  split at h
  ·split at h
   ·rename_i hw
    simp only [hw]
    exact stepK_ref hc (fun e r he => opsG_ref hc hkk (hk.apply o e) he) (stepG_ok hk h)
   ·cases h
  ·rename_i d want hg
   split at h
   ·rename_i v hv
    obtain ⟨t, h1, h2⟩ := hk d v hv
    have hw : wantedA all st o = some (v == want) := by
     rw [guard_wanted hg, h1]
     simp only [h2]
     cases want <;> cases v <;> rfl
    rw [hw]
    split at h
    ·rename_i he
     simp only [he]
     exact stepK_ref hc (fun e r he => opsG_ref hc hkk (hk.apply o e) he) (stepG_ok hk h)
    ·rename_i he
     simp only [he]
     exact opsG_ref hc hkk (hk.apply o _) h
   ·split at h
    ·rename_i b hb
     rcases cond_true h with ⟨h1, h2⟩ | ⟨h1, h2⟩
     ·subst h1
      have hk2 := hk.ext hg hb
      exact stepK_ref hc (fun e r he => opsG_ref hc hkk (Knows.apply hk2 o e) he) (stepG_ok hk2 h2)
     ·subst h1
      have hk2 := hk.ext hg hb
      exact opsG_ref hc hkk (Knows.apply hk2 o _) h2
    ·cases h
theorem iter_mono {pl : St → St} {body body' : St → KE → Option Bool} (hb : ∀ st k k', KLe k k' → body st k = some true → body' st k' = some true) : ∀ {n : Nat} {st : St} {k k' : KE}, KLe k k' → iter n pl body st k = some true → iter n pl body' st k' = some true
 | 0, st, k, k', hk, h => by rw [iter] at h; cases h
 | n + 1, st, k, k', hk, h => by
  rw [iter] at h ⊢
  refine hb _ _ _ (fun e s he => ?_) h
  cases e with
  | normal => exact iter_mono hb hk he
  | exit id => exact hk _ _ he
  | ret => exact hk _ _ he
def LoopRef (P : Program) (ht : Hints) (f : FuncId) (callf' : CallF) (loopf : LoopF) (p : Nat × Code) : Prop :=
 ∀ lf st k k', loopf p.1 = some lf → KLe k k' → lf st k = some true → iter ROUNDS (plan P (ht f p.1)) (fun st k => execK P ht f callf' p.1 p.2 st k) st k' = some true
theorem rangeK_ref (hc : CallRef callf callf') {f : FuncId} {b : Nat} {g : Operand} {x y : Code} {st : St} {k k' : St → Option Bool} (hk : ∀ st, k st = some true → k' st = some true) (h : rangeK P f callf b g x y st k = some true) : rangeK P f callf' b g x y st k' = some true := by
 unfold rangeK at h ⊢
 split at h
 ·rename_i it first captured hev
  (try simp only [hev])
  split at h
  ·rename_i ht
   (try simp only [ht])
   refine hc _ _ _ _ _ _ (fun e ft he => ?_) h
   split at he
   ·rename_i hl
    (try simp only [hl])
    exact hk _ he
   ·cases he
  ·cases h
 ·cases h
theorem execK_mono (hc : CallRef callf callf') {f : FuncId} : ∀ (c : Code) (b : Nat) (st : St) (k k' : KE), KLe k k' → execK P ht f callf b c st k = some true → execK P ht f callf' b c st k' = some true
 | .skip, b, st, k, k', hk, h => by rw [execK] at h ⊢; exact hk _ _ h
 | .label l, b, st, k, k', hk, h => by rw [execK] at h ⊢; exact hk _ _ h
 | .exit id, b, st, k, k', hk, h => by rw [execK] at h ⊢; exact hk _ _ h
 | .ret, b, st, k, k', hk, h => by rw [execK] at h ⊢; exact hk _ _ h
 | .region id ops draw, b, st, k, k', hk, h => by
  rw [execK] at h ⊢
  refine opsK_ref hc (fun s r h1 => ?_) h
  cases draw with
  | false => exact hk _ _ h1
  | true =>
   simp only at h1 ⊢
   split at h1
   ·rename_i hd; (try simp only [hd]); exact hk _ _ h1
   ·cases h1
 | .seq x y, b, st, k, k', hk, h => by
  rw [execK] at h ⊢
  refine execK_mono hc x b st _ _ (fun e s h1 => ?_) h
  cases e with
  | normal => exact execK_mono hc y b s k k' hk h1
  | exit id => exact hk _ _ h1
  | ret => exact hk _ _ h1
 | .cond c x y, b, st, k, k', hk, h => by
  rw [execK] at h ⊢
  split at h
  ·rename_i t ht
   try simp only [ht]
   rcases cond_true h with ⟨h1, h⟩ | ⟨h1, h⟩
   ·rw [h1]; exact execK_mono hc x b st k k' hk h
   ·rw [h1]; exact execK_mono hc y b st k k' hk h
  ·rename_i may yes ht
   try simp only [ht]
   rcases cond_true h with ⟨h1, h⟩ | ⟨h1, h⟩
   ·rw [h1]
    obtain ⟨h2, h3⟩ := meet_true h
    show meet _ _ = some true
    rw [execK_mono hc x b st k k' hk h2, execK_mono hc y b st k k' hk h3]
    rfl
   ·rw [h1]
    cases yes with
    | true => exact execK_mono hc y b st k k' hk h
    | false => exact execK_mono hc x b st k k' hk h
  ·cases h
 | .block id c, b, st, k, k', hk, h => by
  rw [execK] at h ⊢
  refine execK_mono hc c id st _ _ (fun e s h1 => ?_) h
  cases e with
  | normal => exact hk _ _ h1
  | exit id' =>
   simp only at h1 ⊢
   split at h1
   ·rename_i hid; (try simp only [hid]); exact hk _ _ h1
   ·rename_i hid; (try simp only [hid]); exact hk _ _ h1
  | ret => exact hk _ _ h1
 | .loop c, b, st, k, k', hk, h => by
  rw [execK] at h ⊢
  exact iter_mono (fun st k k' hk h => execK_mono hc c b st k k' hk h) hk h
 | .rangeFunc g ps x y, b, st, k, k', hk, h => by rw [execK] at h ⊢; exact rangeK_ref hc (hk _) h
 | .scope x, b, st, k, k', hk, h => by simp [execK] at h
 | .goto l, b, st, k, k', hk, h => by simp [execK] at h
 | .refuse m, b, st, k, k', hk, h => by simp [execK] at h
theorem execL_ref (hc : CallRef callf callf') {f : FuncId} {loopf : LoopF} : ∀ (c : Code) (b : Nat) (st : St) (k k' : KE), (∀ p ∈ loopsOf loopf b c, LoopRef P ht f callf' loopf p) → KLe k k' → execL P ht f callf loopf b c st k = some true → execK P ht f callf' b c st k' = some true
 | .skip, b, st, k, k', hl, hk, h => by rw [execL] at h; rw [execK]; exact hk _ _ h
 | .label l, b, st, k, k', hl, hk, h => by rw [execL] at h; rw [execK]; exact hk _ _ h
 | .exit id, b, st, k, k', hl, hk, h => by rw [execL] at h; rw [execK]; exact hk _ _ h
 | .ret, b, st, k, k', hl, hk, h => by rw [execL] at h; rw [execK]; exact hk _ _ h
 | .region id ops draw, b, st, k, k', hl, hk, h => by
  rw [execL] at h
  rw [execK]
  refine opsG_ref hc (fun s r h1 => ?_) (fun d v hv => by cases hv) h
  cases draw with
  | false => exact hk _ _ h1
  | true =>
   simp only at h1 ⊢
   split at h1
   ·rename_i hd; (try simp only [hd]); exact hk _ _ h1
   ·cases h1
 | .seq x y, b, st, k, k', hl, hk, h => by
  rw [execL] at h
  rw [execK]
  refine execL_ref hc x b st _ _ (fun p hp => hl p (by rw [loopsOf]; exact List.mem_append_left _ hp)) (fun e s h1 => ?_) h
  cases e with
  | normal => exact execL_ref hc y b s k k' (fun p hp => hl p (by rw [loopsOf]; exact List.mem_append_right _ hp)) hk h1
  | exit id => exact hk _ _ h1
  | ret => exact hk _ _ h1
 | .cond c x y, b, st, k, k', hl, hk, h => by
  rw [execL] at h
  rw [execK]
  have hx := fun h => execL_ref hc x b st k k' (fun p hp => hl p (by rw [loopsOf]; exact List.mem_append_left _ hp)) hk h
  have hy := fun h => execL_ref hc y b st k k' (fun p hp => hl p (by rw [loopsOf]; exact List.mem_append_right _ hp)) hk h
  split at h
  ·rename_i t ht
   try simp only [ht]
   rcases cond_true h with ⟨h1, h⟩ | ⟨h1, h⟩
   ·rw [h1]; exact hx h
   ·rw [h1]; exact hy h
  ·rename_i may yes ht
   try simp only [ht]
   rcases cond_true h with ⟨h1, h⟩ | ⟨h1, h⟩
   ·rw [h1]
    obtain ⟨h2, h3⟩ := meet_true h
    show meet _ _ = some true
    rw [hx h2, hy h3]
    rfl
   ·rw [h1]
    cases yes with
    | true => exact hy h
    | false => exact hx h
  ·cases h
 | .block id c, b, st, k, k', hl, hk, h => by
  rw [execL] at h
  rw [execK]
  refine execL_ref hc c id st _ _ (fun p hp => hl p (by rw [loopsOf]; exact hp)) (fun e s h1 => ?_) h
  cases e with
  | normal => exact hk _ _ h1
  | exit id' =>
   simp only at h1 ⊢
   split at h1
   ·rename_i hid; (try simp only [hid]); exact hk _ _ h1
   ·rename_i hid; (try simp only [hid]); exact hk _ _ h1
  | ret => exact hk _ _ h1
 | .loop c, b, st, k, k', hl, hk, h => by
  rw [execL] at h
  rw [execK]
  cases hb : loopf b with
  | some lf =>
   rw [hb] at h
   exact hl (b, c) (by rw [loopsOf, hb]; exact List.mem_singleton.2 rfl) lf _ _ _ hb hk h
  | none =>
   rw [hb] at h
   exact iter_mono (fun st k k' hk h => execL_ref hc c b st k k' (fun p hp => hl p (by rw [loopsOf, hb]; exact hp)) hk h) hk h
 | .rangeFunc g ps x y, b, st, k, k', hl, hk, h => by rw [execL] at h; rw [execK]; exact rangeK_ref hc (hk _) h
 | .scope x, b, st, k, k', hl, hk, h => by simp [execL] at h
 | .goto l, b, st, k, k', hl, hk, h => by simp [execL] at h
 | .refuse m, b, st, k, k', hl, hk, h => by simp [execL] at h
theorem callfOf_ref {rec rec' : RecF} (h : RecRef rec rec') : CallRef (callfOf P rec) (callfOf P rec') := by
 intro st me g xs k k' hk hc
 unfold callfOf at hc ⊢
 split at hc
 ·rename_i b z hp
  (try simp only [hp])
  rcases cond_true hc with ⟨hb, h1⟩ | ⟨_, h1⟩
  ·rw [hb]; exact hk _ _ h1
  ·cases h1
 rename_i hp
 (try simp only [hp])
 unfold callfGo at hc ⊢
 split at hc
 ·simp only at hc ⊢
  split at hc
  ·rename_i hl
   (try simp only [hl])
   split at hc
   ·rename_i hh
    (try simp only [hh])
    split at hc
    ·rename_i hlow
     (try simp only [hlow])
     exact h _ _ _ _ _ (fun r h' h1 => hk _ _ h1) hc
    ·cases hc
   ·cases hc
  ·cases hc
 ·cases hc
theorem leave_ref {fn : Func} {k k' : KR} (hk : RLe k k') : KLe (leave P fn k) (leave P fn k') := by
 intro e st h
 unfold leave at h ⊢
 split at h
 ·cases h
 ·rename_i hne
  split at h
  ·rename_i rs hrs
   (try simp only [hrs])
   exact hk _ _ h
  ·cases h
theorem leaveR_ref {p : Option Plan} {k k' : KR} (hk : RLe k k') : KLe (leaveR P p k) (leaveR P p k') := by
 intro e st h
 cases e with
 | normal => exact hk _ _ h
 | exit id => cases h
 | ret => cases h
theorem callS_ref {rec rec' : RecF} (hr : RecRef rec rec') : RecRef (callS P ht rec) (callS P ht rec') := by
 intro g a h k k' hk hc
 have fn : funS P ht rec g a h k = some true → funS P ht rec' g a h k' = some true := fun hc => by
  unfold funS at hc ⊢
  split at hc
  ·rename_i fn hfn
   split at hc
   ·rename_i c hbody
    (try simp only [hbody])
    exact execK_mono (callfOf_ref hr) c 0 _ _ _ (leave_ref hk) hc
   ·cases hc
  ·cases hc
 have rn : ∀ n, roundS P ht rec g n a h k = some true → roundS P ht rec' g n a h k' = some true := fun n hc => by
  unfold roundS at hc ⊢
  split at hc
  ·rename_i rb hrb
   (try simp only [hrb])
   exact execK_mono (callfOf_ref hr) _ 0 _ _ _ (leaveR_ref hk) hc
  ·cases hc
 unfold callS at hc ⊢
 cases hb : Nat.blt g RND with
 | true => rw [hb, _root_.cond_true] at hc; rw [_root_.cond_true]; exact fn hc
 | false => rw [hb, cond_false] at hc; rw [cond_false]; exact rn _ hc
theorem callK_mono : ∀ d, RecRef (callK P ht d) (callK P ht d)
 | 0 => fun g a h k k' hk hc => by cases hc
 | d + 1 => callS_ref (callK_mono d)
theorem callK_deeper : ∀ d, RecRef (callK P ht d) (callK P ht (d + 1))
 | 0 => fun g a h k k' hk hc => by cases hc
 | d + 1 => callS_ref (callK_deeper d)
theorem callK_le {d : Nat} : ∀ {d' : Nat}, d ≤ d' → RecRef (callK P ht d) (callK P ht d') := by
 intro d' h
 induction h with
 | refl => exact callK_mono d
 | step _ ih => exact fun g a h k k' hk hc => callK_deeper _ g a h k' k' (fun _ _ h => h) (ih g a h k k' hk hc)
end
end AX
namespace AX
def pickGo (keep : List Nat) : Nat → List AV → Option (List AV)
 | _, [] => some []
 | i, x :: r => match memNat i keep with
  | true => match pickGo keep (i + 1) r with
   | some q => some (x :: q)
   | none => none
  | false => match x with
   | .top => pickGo keep (i + 1) r
   | _ => none
def pickS (len : Nat) (keep : List Nat) (sl : List AV) : Option (List AV) := match Nat.beq sl.length len with
 | true => pickGo keep 0 sl
 | false => none
def fillGo (keep : List Nat) : Nat → Nat → List AV → List AV
 | _, 0, _ => []
 | i, n + 1, vs => match memNat i keep with
  | true => match vs with
   | v :: r => v :: fillGo keep (i + 1) n r
   | [] => .top :: fillGo keep (i + 1) n []
  | false => .top :: fillGo keep (i + 1) n vs
def fillS (len : Nat) (keep : List Nat) (vs : List AV) : List AV := fillGo keep 0 len vs
theorem fillGo_succ {keep : List Nat} {i n : Nat} {vs : List AV} : fillGo keep i (n + 1) vs = match memNat i keep with
  | true => match vs with
   | v :: r => v :: fillGo keep (i + 1) n r
   | [] => .top :: fillGo keep (i + 1) n []
  | false => .top :: fillGo keep (i + 1) n vs := by cases vs <;> rfl
theorem pickGo_cons {keep : List Nat} {i : Nat} {x : AV} {r : List AV} : pickGo keep i (x :: r) = match memNat i keep with
  | true => match pickGo keep (i + 1) r with
   | some q => some (x :: q)
   | none => none
  | false => match x with
   | .top => pickGo keep (i + 1) r
   | _ => none := by cases x <;> rfl
theorem pickGo_ok {keep : List Nat} : ∀ {i : Nat} {sl vs : List AV}, pickGo keep i sl = some vs → sl = fillGo keep i sl.length vs
 | i, [], vs, h => rfl
 | i, x :: r, vs, h => by
  rw [pickGo_cons] at h
  rw [List.length_cons, fillGo_succ]
  split at h
  ·split at h
   ·rename_i q hq
    cases h
    simp only
    rw [← pickGo_ok hq]
   ·cases h
  ·split at h
   ·rw [← pickGo_ok h]
   ·cases h
theorem pickS_ok {len : Nat} {keep : List Nat} {sl vs : List AV} (h : pickS len keep sl = some vs) : sl = fillS len keep vs := by
 unfold pickS at h
 split at h
 ·rename_i hl
  have hl := Nat.eq_of_beq_eq_true hl
  unfold fillS
  rw [← hl]
  exact pickGo_ok h
 ·cases h
section
variable {P : Program} {ht : Hints}
theorem fn_ok {d : Nat} {f : FuncId} {fn : Func} {c : Code} (hlt : Nat.blt f RND = true) (hf : P.funcs[f]? = some fn) (hb : fn.body = some c) {rec : RecF} (hrec : ∀ g a h k, rec g a h k = some true → callK P ht d g a h k = some true) {loopf : LoopF}
  (hl : ∀ p ∈ loopsOf loopf 0 c, LoopRef P ht f (callfOf P (callK P ht d)) loopf p) {args : List AV} {h : Heap} {k : KR} (hx : execL P ht f (callfOf P rec) loopf 0 c ⟨args ++ List.replicate (fn.ntmps - args.length) .undef, h, 2⟩ (leave P fn k) = some true) :
  callK P ht (d + 1) f args h k = some true := by
 rw [callK_succ, callS_fun (Nat.blt_eq.mp hlt), funS]
 simp only [hf, hb]
 exact execL_ref (callfOf_ref fun g a h k k' hk hr => callK_mono d g a h k k' hk (hrec g a h k hr)) c 0 _ _ _ hl (fun _ _ h => h) hx
theorem rnd_ok {d n : Nat} {rb : RB} (hr : roundOf P n = some rb) {rec : RecF} (hrec : ∀ g a h k, rec g a h k = some true → callK P ht d g a h k = some true) {loopf : LoopF}
  (hl : ∀ p ∈ loopsOf loopf 0 (.seq rb.assign rb.body), LoopRef P ht (RND + n) (callfOf P (callK P ht d)) loopf p) {args : List AV} {h : Heap} {k : KR} (hx : execL P ht (RND + n) (callfOf P rec) loopf 0 (.seq rb.assign rb.body) ⟨slotsR rb args, h, 2⟩ (leaveR P (ht (RND + n) ATRET) k) = some true) :
  callK P ht (d + 1) (RND + n) args h k = some true := by
 rw [callK_succ, callS_round, roundS, hr]
 exact execL_ref (callfOf_ref fun g a h k k' hk hr => callK_mono d g a h k k' hk (hrec g a h k hr)) _ 0 _ _ _ hl (fun _ _ h => h) hx
def again (lf : St → KE → Option Bool) (pl : St → St) (k : KE) : KE := fun e s => match e with
 | .normal => lf (pl s) k
 | .exit id => k (.exit id) s
 | .ret => k .ret s
theorem loop_ok {d : Nat} {f : FuncId} {b : Nat} {c : Code} {rec : RecF} (hrec : ∀ g a h k, rec g a h k = some true → callK P ht d g a h k = some true) {loopf : LoopF}
  (hl : ∀ p ∈ loopsOf loopf b c, LoopRef P ht f (callfOf P (callK P ht d)) loopf p) {lfn : Nat → St → KE → Option Bool} (h0 : ∀ st k, lfn 0 st k = some true → False)
  (hs : ∀ n st k, lfn (n + 1) st k = some true → execL P ht f (callfOf P rec) loopf b c st (again (lfn n) (plan P (ht f b)) k) = some true) :
  ∀ n st k, lfn n st k = some true → iter n (plan P (ht f b)) (fun st k => execK P ht f (callfOf P (callK P ht d)) b c st k) st k = some true
 | 0, st, k, h => (h0 st k h).elim
 | n + 1, st, k, h => by
  rw [iter]
  refine execL_ref (callfOf_ref fun g a h k k' hk hr => callK_mono d g a h k k' hk (hrec g a h k hr)) c b _ _ _ hl (fun e s he => ?_) (hs n st k h)
  unfold again at he
  cases e with
  | normal => exact loop_ok hrec hl h0 hs n _ _ he
  | exit id => exact he
  | ret => exact he
theorem loopRef_of {f : FuncId} {p : Nat × Code} {loopf : LoopF} {callf : CallF} (hcal : CallRef callf callf) (h : ∀ lf st k, loopf p.1 = some lf → lf st k = some true → iter ROUNDS (plan P (ht f p.1)) (fun st k => execK P ht f callf p.1 p.2 st k) st k = some true) : LoopRef P ht f callf loopf p :=
 fun lf st k k' hb hk hx => iter_mono (fun st k k' hk h => execK_mono hcal p.2 p.1 st k k' hk h) hk (h lf st k hb hx)
end
end AX
namespace AX
structure Pt (α β : Type) where
 get : β → Option α
 put : α → β
 ok : ∀ {b : β} {a : α}, get b = some a → b = put a
theorem castT_dv {a b : Ty} {x : a.T} {y : b.T} (h : castT a b x = some y) : (⟨a, x⟩ : DV) = ⟨b, y⟩ := by
 unfold castT at h
 split at h
 ·rename_i p hp
  obtain ⟨p⟩ := p
  subst p
  cases h
  rfl
 ·cases h
theorem castL_cg {γ : Type} (g : (t : Ty) → List t.T → γ) {a b : Ty} {x : List a.T} {y : List b.T} (h : castL a b x = some y) : g a x = g b y := by
 unfold castL at h
 split at h
 ·rename_i p hp
  obtain ⟨p⟩ := p
  subst p
  cases h
  rfl
 ·cases h
def sameId : Id → Id → Bool
 | [], [] => true
 | a :: r, b :: q => match Nat.beq a b with
  | true => sameId r q
  | false => false
 | _, _ => false
theorem sameId_eq : ∀ {i j : Id}, sameId i j = true → i = j
 | [], [], _ => rfl
 | [], b :: q, h => by cases h
 | a :: r, [], h => by cases h
 | a :: r, b :: q, h => by
  unfold sameId at h
  split at h
  ·rename_i hb
   rw [Nat.eq_of_beq_eq_true hb, sameId_eq h]
  ·cases h
def both {α β : Type} : Option α → Option β → Option (α × β)
 | some a, some b => some (a, b)
 | _, _ => none
theorem both_eq {α β : Type} {x : Option α} {y : Option β} {v : α × β} (h : both x y = some v) : x = some v.1 ∧ y = some v.2 := by
 unfold both at h
 split at h
 ·cases h; exact ⟨rfl, rfl⟩
 ·cases h
def when {α : Type} (c : Bool) (x : Option α) : Option α := match c with
 | true => x
 | false => none
theorem when_eq {α : Type} {c : Bool} {x : Option α} {v : α} (h : when c x = some v) : c = true ∧ x = some v := by
 unfold when at h
 split at h
 ·exact ⟨rfl, h⟩
 ·cases h
def nk (n : Nat) : Pt Unit Nat := ⟨fun m => when (Nat.beq m n) (some ()), fun _ => n, fun h => Nat.eq_of_beq_eq_true (when_eq h).1⟩
def nv : Pt Nat Nat := ⟨some, id, fun h => Option.some.inj h⟩
def pd (t : Ty) : Pt t.T AV := ⟨fun | .d ⟨u, x⟩ => castT u t x | _ => none, fun x => .d ⟨t, x⟩, fun {b a} h => by
 cases b with
 | d x => obtain ⟨u, x⟩ := x; exact congrArg AV.d (castT_dv h)
 | _ => cases h⟩
def pb (tag : Nat) (e : TypeId) (t : Ty) : Pt (List t.T) AV := ⟨fun | .bv tag' e' u xs => when (Nat.beq tag' tag && Nat.beq e' e) (castL u t xs) | _ => none, fun x => .bv tag e t x, fun {b a} h => by
 cases b with
 | bv tag' e' u xs =>
  obtain ⟨h1, h2⟩ := when_eq h
  obtain ⟨h3, h4⟩ := Bool.and_eq_true _ _ ▸ h1
  rw [Nat.eq_of_beq_eq_true h3, Nat.eq_of_beq_eq_true h4]
  exact castL_cg (fun t x => AV.bv tag e t x) h2
 | _ => cases h⟩
def pk : Nat → Pt Unit AV
 | 0 => ⟨fun | .nils => some () | _ => none, fun _ => .nils, fun {b a} h => by cases b <;> first | rfl | cases h⟩
 | 1 => ⟨fun | .nilp => some () | _ => none, fun _ => .nilp, fun {b a} h => by cases b <;> first | rfl | cases h⟩
 | 2 => ⟨fun | .nilf => some () | _ => none, fun _ => .nilf, fun {b a} h => by cases b <;> first | rfl | cases h⟩
 | 3 => ⟨fun | .undef => some () | _ => none, fun _ => .undef, fun {b a} h => by cases b <;> first | rfl | cases h⟩
 | _ => ⟨fun | .top => some () | _ => none, fun _ => .top, fun {b a} h => by cases b <;> first | rfl | cases h⟩
def pr (i : Id) : Pt Unit AV := ⟨fun | .ref j => when (sameId j i) (some ()) | _ => none, fun _ => .ref i, fun {b a} h => by
 cases b with
 | ref j => exact congrArg AV.ref (sameId_eq (when_eq h).1)
 | _ => cases h⟩
def pc {α β : Type} (i : Id) (p : Pt α Nat) (q : Pt β Nat) : Pt (α × β) AV := ⟨fun | .cut j m n => when (sameId j i) (both (p.get m) (q.get n)) | _ => none, fun x => .cut i (p.put x.1) (q.put x.2), fun {b a} h => by
 cases b with
 | cut j m n => obtain ⟨h1, h2⟩ := when_eq h; obtain ⟨h3, h4⟩ := both_eq h2; rw [sameId_eq h1, p.ok h3, q.ok h4]
 | _ => cases h⟩
def pp {α β : Type} (i : Id) (p : Pt α Nat) (q : Pt β Nat) : Pt (α × β) AV := ⟨fun | .ptr j m n => when (sameId j i) (both (p.get m) (q.get n)) | _ => none, fun x => .ptr i (p.put x.1) (q.put x.2), fun {b a} h => by
 cases b with
 | ptr j m n => obtain ⟨h1, h2⟩ := when_eq h; obtain ⟨h3, h4⟩ := both_eq h2; rw [sameId_eq h1, p.ok h3, q.ok h4]
 | _ => cases h⟩
def pq (i : Id) (m n : Nat) : Pt Unit AV := ⟨fun | .ptr j a b => when (sameId j i && (Nat.beq a m && Nat.beq b n)) (some ()) | _ => none, fun _ => .ptr i m n, fun {b a} h => by
 cases b with
 | ptr j x y =>
  have h1 := (when_eq h).1
  simp only [Bool.and_eq_true] at h1
  rw [sameId_eq h1.1, Nat.eq_of_beq_eq_true h1.2.1, Nat.eq_of_beq_eq_true h1.2.2]
 | _ => cases h⟩
def pv {α : Type} (t : Ty) (p : Pt α Nat) : Pt (t.T × α) AV := ⟨fun | .vptr ⟨u, x⟩ m => both (castT u t x) (p.get m) | _ => none, fun x => .vptr ⟨t, x.1⟩ (p.put x.2), fun {b a} h => by
 cases b with
 | vptr x m => obtain ⟨u, x⟩ := x; obtain ⟨h3, h4⟩ := both_eq h; rw [castT_dv h3, p.ok h4]
 | _ => cases h⟩
def pa {α : Type} (p : Pt α (List AV)) : Pt α AV := ⟨fun | .agg l => p.get l | _ => none, fun x => .agg (p.put x), fun {b a} h => by
 cases b with
 | agg l => exact congrArg AV.agg (p.ok h)
 | _ => cases h⟩
def pt {α : Type} (p : Pt α (List AV)) : Pt α AV := ⟨fun | .tup l => p.get l | _ => none, fun x => .tup (p.put x), fun {b a} h => by
 cases b with
 | tup l => exact congrArg AV.tup (p.ok h)
 | _ => cases h⟩
def pf {α β : Type} (f : Nat) (p : Pt α (List AV)) (q : Pt β (List AV)) : Pt (α × β) AV := ⟨fun | .fn (.func g) l m => when (Nat.beq g f) (both (p.get l) (q.get m)) | _ => none, fun x => .fn (.func f) (p.put x.1) (q.put x.2), fun {b a} h => by
 cases b with
 | fn g l m =>
  cases g with
  | func g => obtain ⟨h1, h2⟩ := when_eq h; obtain ⟨h3, h4⟩ := both_eq h2; rw [Nat.eq_of_beq_eq_true h1, p.ok h3, q.ok h4]
  | _ => cases h
 | _ => cases h⟩
def py {α : Type} (f : Nat) (q : Pt α (List AV)) : Pt α AV := ⟨fun | .fn (.yield g) [] m => when (Nat.beq g f) (q.get m) | _ => none, fun x => .fn (.yield f) [] (q.put x), fun {b a} h => by
 cases b with
 | fn g l m =>
  cases g with
  | yield g =>
   cases l with
   | nil => obtain ⟨h1, h2⟩ := when_eq h; rw [Nat.eq_of_beq_eq_true h1, q.ok h2]
   | cons => cases h
  | _ => cases h
 | _ => cases h⟩
def pn (y : Bool) : Pt Bool AV := ⟨fun | .nt m z => when (y == z) (some m) | _ => none, fun x => .nt x y, fun {b a} h => by
 cases b with
 | nt m z => obtain ⟨h1, h2⟩ := when_eq h; rw [eq_of_beq h1, Option.some.inj h2]
 | _ => cases h⟩
def pz {γ : Type} : Pt Unit (List γ) := ⟨fun | [] => some () | _ :: _ => none, fun _ => [], fun {b a} h => by
 cases b with
 | nil => rfl
 | cons => cases h⟩
def pl {α β γ : Type} (p : Pt α γ) (q : Pt β (List γ)) : Pt (α × β) (List γ) := ⟨fun | x :: r => both (p.get x) (q.get r) | [] => none, fun v => p.put v.1 :: q.put v.2, fun {b a} h => by
 cases b with
 | nil => cases h
 | cons x r => obtain ⟨h3, h4⟩ := both_eq h; rw [p.ok h3, q.ok h4]⟩
def ps {β γ : Type} (p : Pt Unit γ) (q : Pt β (List γ)) : Pt β (List γ) := ⟨fun | x :: r => (match p.get x with | some _ => q.get r | none => none) | [] => none, fun v => p.put () :: q.put v, fun {b a} h => by
 cases b with
 | nil => cases h
 | cons x r =>
  have h' : (match p.get x with | some _ => q.get r | none => none) = some a := h
  split at h'
  ·rename_i u hu; rw [p.ok hu, q.ok h']
  ·cases h'⟩
def ed (t : Ty) : Pt (List t.T) El := ⟨fun | .data u xs => castL u t xs | _ => none, fun x => .data t x, fun {b a} h => by
 cases b with
 | data u xs => exact castL_cg (fun t x => El.data t x) h
 | mix => cases h⟩
def es {α : Type} (t : Ty) (p : Pt α (List t.T)) : Pt α El := ⟨fun | .data u xs => (match castL u t xs with | some ys => p.get ys | none => none) | _ => none, fun x => .data t (p.put x), fun {b a} h => by
 cases b with
 | data u xs =>
  have h' : (match castL u t xs with | some ys => p.get ys | none => none) = some a := h
  split at h'
  ·rename_i ys hy; rw [castL_cg (fun t x => El.data t x) hy, p.ok h']
  ·cases h'
 | mix => cases h⟩
def eh {γ : Type} : Pt γ γ := ⟨some, id, fun h => Option.some.inj h⟩
def em {α : Type} (p : Pt α (List AV)) : Pt α El := ⟨fun | .mix l => p.get l | _ => none, fun x => .mix (p.put x), fun {b a} h => by
 cases b with
 | mix l => exact congrArg El.mix (p.ok h)
 | data => cases h⟩
def po {α : Type} (i : Id) (e g : Nat) (p : Pt α El) : Pt α (Id × Obj) := ⟨fun | (j, ⟨e', g', el⟩) => when (sameId j i && (Nat.beq e' e && Nat.beq g' g)) (p.get el), fun x => (i, ⟨e, g, p.put x⟩), fun {b a} h => by
 obtain ⟨j, e', g', el⟩ := b
 obtain ⟨h1, h2⟩ := when_eq h
 simp only [Bool.and_eq_true] at h1
 rw [sameId_eq h1.1, Nat.eq_of_beq_eq_true h1.2.1, Nat.eq_of_beq_eq_true h1.2.2, p.ok h2]⟩
structure FPat where
 f : FuncId
 A : Type
 args : Pt A (List AV)
 H : Type
 hp : Pt H Heap
def fp (f : FuncId) {A H : Type} (a : Pt A (List AV)) (h : Pt H Heap) : FPat := ⟨f, A, a, H, h⟩
def FPat.T (p : FPat) : Type := p.A × p.H
def FPat.get (p : FPat) (g : FuncId) (a : List AV) (h : Heap) : Option p.T := when (Nat.beq g p.f) (both (p.args.get a) (p.hp.get h))
theorem FPat.get_put {p : FPat} {g : FuncId} {a : List AV} {h : Heap} {v : p.T} (hx : p.get g a h = some v) : g = p.f ∧ a = p.args.put v.1 ∧ h = p.hp.put v.2 := by
 obtain ⟨h1, h2⟩ := when_eq hx
 obtain ⟨h3, h4⟩ := both_eq h2
 exact ⟨Nat.eq_of_beq_eq_true h1, p.args.ok h3, p.hp.ok h4⟩
structure LPat where
 n : Nat
 len : Nat
 keep : List Nat
 A : Type
 sl : Pt A (List AV)
 H : Type
 hp : Pt H Heap
def lp (n len : Nat) (keep : List Nat) {A H : Type} (a : Pt A (List AV)) (h : Pt H Heap) : LPat := ⟨n, len, keep, A, a, H, h⟩
def LPat.T (p : LPat) : Type := p.A × p.H
def LPat.put (p : LPat) (v : p.T) : St := ⟨fillS p.len p.keep (p.sl.put v.1), p.hp.put v.2, p.n⟩
def LPat.get (p : LPat) (s : St) : Option p.T := when (Nat.beq s.n p.n) (match pickS p.len p.keep s.sl with
 | some vs => both (p.sl.get vs) (p.hp.get s.hp)
 | none => none)
theorem LPat.get_put {p : LPat} {st : St} {v : p.T} (hx : p.get st = some v) : st = p.put v := by
 obtain ⟨sl, h, n⟩ := st
 obtain ⟨h1, h2⟩ := when_eq hx
 split at h2
 ·rename_i vs hs
  obtain ⟨h3, h4⟩ := both_eq h2
  unfold LPat.put
  rw [← p.sl.ok h3, ← p.hp.ok h4, ← pickS_ok hs, ← Nat.eq_of_beq_eq_true h1]
 ·cases h2
structure CE where
 p : FPat
 F : p.T → KR → Option Bool
structure LE where
 b : Nat
 p : LPat
 F : p.T → KE → Option Bool
def callsT : List CE → RecF
 | [] => fun _ _ _ _ => none
 | c :: r => fun g a h k => match c.p.get g a h with
  | some v => c.F v k
  | none => callsT r g a h k
def hasL (b : Nat) : List LE → Bool
 | [] => false
 | l :: r => match Nat.beq l.b b with
  | true => true
  | false => hasL b r
def lookL (b : Nat) : List LE → St → KE → Option Bool
 | [] => fun _ _ => none
 | l :: r => match Nat.beq l.b b with
  | true => fun st k => match l.p.get st with
   | some v => l.F v k
   | none => lookL b r st k
  | false => lookL b r
def loopsT (un : List Nat) (ls : List LE) : LoopF := fun b => match memNat b un with
 | true => none
 | false => match hasL b ls with
  | true => some (lookL b ls)
  | false => none
def FPat.st (p : FPat) (fn : Func) (v : p.T) : St := ⟨p.args.put v.1 ++ List.replicate (fn.ntmps - (p.args.put v.1).length) .undef, p.hp.put v.2, 2⟩
def execF (P : Program) (ht : Hints) (fn : Func) (p : FPat) (cs : List CE) (un : List Nat) (ls : List LE) (v : p.T) (k : KR) : Option Bool := execL P ht p.f (callfOf P (callsT cs)) (loopsT un ls) 0 (codeOf fn) (p.st fn v) (leave P fn k)
def rbAt (P : Program) (n : Nat) : RB := match roundOf P n with
 | some rb => rb
 | none => ⟨#[], .skip, .skip⟩
theorem rbAt_eq {P : Program} {n : Nat} (h : (roundOf P n).isSome = true) : roundOf P n = some (rbAt P n) := by
 unfold rbAt
 cases hr : roundOf P n with
 | none => rw [hr] at h; cases h
 | some rb => rfl
def rndFn (rb : RB) : Func := { (default : Func) with body := some (.seq rb.assign rb.body) }
def execB (P : Program) (ht : Hints) (rb : RB) (p : FPat) (cs : List CE) (un : List Nat) (ls : List LE) (v : p.T) (k : KR) : Option Bool := execL P ht p.f (callfOf P (callsT cs)) (loopsT un ls) 0 (codeOf (rndFn rb)) ⟨slotsR rb (p.args.put v.1), p.hp.put v.2, 2⟩ (leaveR P (ht p.f ATRET) k)
def lfP (p : LPat) (F : p.T → KE → Option Bool) (st : St) (k : KE) : Option Bool := match p.get st with
 | some v => F v k
 | none => none
def execR (P : Program) (ht : Hints) (f : FuncId) (fn : Func) (b : Nat) (p : LPat) (cs : List CE) (un : List Nat) (ls : List LE) (F : p.T → KE → Option Bool) (v : p.T) (k : KE) : Option Bool := execL P ht f (callfOf P (callsT cs)) (loopsT un ls) b (loopAt b (codeOf fn)) (p.put v) (again (lfP p F) (plan P (ht f b)) k)
section
variable (P : Program) (ht : Hints)
def FnOk (d : Nat) (p : FPat) (F : p.T → KR → Option Bool) : Prop := ∀ e, d ≤ e → ∀ v k, F v k = some true → callK P ht e p.f (p.args.put v.1) (p.hp.put v.2) k = some true
def LoopOk (f : FuncId) (fn : Func) (d b : Nat) (p : LPat) (F : p.T → KE → Option Bool) : Prop := ∀ e, d ≤ e → ∀ st v k, p.get st = some v → F v k = some true → iter ROUNDS (plan P (ht f b)) (fun st k => execK P ht f (callfOf P (callK P ht e)) b (loopAt b (codeOf fn)) st k) st k = some true
inductive Cs (d : Nat) : List CE → Prop
 | nil : Cs d []
 | cons {c : CE} {r : List CE} {d0 : Nat} (h : FnOk P ht d0 c.p c.F) (t : Cs d r) (hd : d0 ≤ d := by decide) : Cs d (c :: r)
inductive Ls (f : FuncId) (fn : Func) (d : Nat) : List LE → Prop
 | nil : Ls f fn d []
 | cons {c : LE} {r : List LE} {d0 : Nat} (h : LoopOk P ht f fn d0 c.b c.p c.F) (t : Ls f fn d r) (hd : d0 ≤ d := by decide) : Ls f fn d (c :: r)
end
section
variable {P : Program} {ht : Hints}
theorem calls_ok {d : Nat} : ∀ {cs : List CE}, Cs P ht d cs → ∀ {e : Nat}, d ≤ e → ∀ g a h k, callsT cs g a h k = some true → callK P ht e g a h k = some true
 | [], _, e, he, g, a, h, k, hx => by cases hx
 | c :: r, hc, e, he, g, a, h, k, hx => by
  rw [callsT] at hx
  cases hc with
  | cons hf ht hd =>
   simp only at hx
   split at hx
   ·rename_i v hv
    obtain ⟨rfl, rfl, rfl⟩ := FPat.get_put hv
    exact hf e (Nat.le_trans hd he) v k hx
   ·exact calls_ok ht he g a h k hx
theorem loops_look {f : FuncId} {fn : Func} {d b : Nat} : ∀ {ls : List LE}, Ls P ht f fn d ls → ∀ {e : Nat}, d ≤ e → ∀ st k, lookL b ls st k = some true → iter ROUNDS (plan P (ht f b)) (fun st k => execK P ht f (callfOf P (callK P ht e)) b (loopAt b (codeOf fn)) st k) st k = some true
 | [], _, e, he, st, k, hx => by cases hx
 | c :: r, hc, e, he, st, k, hx => by
  rw [lookL] at hx
  cases hc with
  | cons hf ht hd =>
   cases hb : Nat.beq c.b b with
   | true =>
    obtain rfl := Nat.eq_of_beq_eq_true hb
    simp only [hb] at hx
    split at hx
    ·rename_i v hv
     exact hf e (Nat.le_trans hd he) st v k hv hx
    ·exact loops_look ht he st k hx
   | false =>
    simp only [hb] at hx
    exact loops_look ht he st k hx
theorem loops_ok {f : FuncId} {fn : Func} {d e : Nat} {un : List Nat} {ls : List LE} (hl : Ls P ht f fn d ls) (he : d ≤ e) {bs : List Nat} {l : List (Nat × Code)} (hbs : l = bs.map fun b => (b, loopAt b (codeOf fn))) :
  ∀ p ∈ l, LoopRef P ht f (callfOf P (callK P ht e)) (loopsT un ls) p := by
 intro p hp
 rw [hbs] at hp
 obtain ⟨b, _, rfl⟩ := List.mem_map.1 hp
 refine loopRef_of (callf := callfOf P (callK P ht e)) (callfOf_ref (callK_mono e)) fun lf st k hb hx => ?_
 unfold loopsT at hb
 simp only at hb
 split at hb
 ·cases hb
 ·split at hb
  ·cases hb
   exact loops_look hl he st k hx
  ·cases hb
theorem fn2 {d : Nat} {fn : Func} {p : FPat} {F : p.T → KR → Option Bool} {cs : List CE} {un : List Nat} {ls : List LE} (he : ∀ v k, execF P ht fn p cs un ls v k = F v k) (hf : P.funcs[p.f]? = some fn) (hb : fn.body.isSome = true) (hc : Cs P ht d cs) (bs : List Nat) (hbs : loopsOf (loopsT un ls) 0 (codeOf fn) = bs.map fun b => (b, loopAt b (codeOf fn))) (hl : Ls P ht p.f fn d ls) (hlt : Nat.blt p.f RND = true := by rfl)
  : FnOk P ht (d + 1) p F := by
 intro e hd v k hx
 obtain ⟨e, rfl⟩ : ∃ m, e = m + 1 := ⟨e - 1, by omega⟩
 have hd : d ≤ e := Nat.le_of_succ_le_succ hd
 have hbody : fn.body = some (codeOf fn) := by
  cases hq : fn.body with
  | none => rw [hq] at hb; cases hb
  | some c => unfold codeOf; rw [hq]
 exact fn_ok hlt hf hbody (rec := callsT cs) (calls_ok hc hd) (loopf := loopsT un ls) (loops_ok hl hd hbs) ((he v k).trans hx)
theorem rnd2 {d n : Nat} {p : FPat} {F : p.T → KR → Option Bool} {cs : List CE} {un : List Nat} {ls : List LE} (he : ∀ v k, execB P ht (rbAt P n) p cs un ls v k = F v k) (hp : p.f = RND + n) (hr : (roundOf P n).isSome = true) (hc : Cs P ht d cs) (bs : List Nat) (hbs : loopsOf (loopsT un ls) 0 (codeOf (rndFn (rbAt P n))) = bs.map fun b => (b, loopAt b (codeOf (rndFn (rbAt P n))))) (hl : Ls P ht p.f (rndFn (rbAt P n)) d ls)
  : FnOk P ht (d + 1) p F := by
 intro e hd v k hx
 obtain ⟨e, rfl⟩ : ∃ m, e = m + 1 := ⟨e - 1, by omega⟩
 have hd : d ≤ e := Nat.le_of_succ_le_succ hd
 have h1 := (he v k).trans hx
 have h2 := loops_ok (un := un) hl hd hbs
 unfold execB at h1
 rw [hp] at h1 h2 ⊢
 exact rnd_ok (rbAt_eq hr) (rec := callsT cs) (calls_ok hc hd) (loopf := loopsT un ls) h2 h1
theorem loop2 {d f b : Nat} {fn : Func} {p : LPat} {G : Nat → p.T → KE → Option Bool} {cs : List CE} {un : List Nat} {ls : List LE} (hs : ∀ n v k, execR P ht f fn b p cs un ls (G n) v k = G (n + 1) v k) (hc : Cs P ht d cs) (bs : List Nat) (hbs : loopsOf (loopsT un ls) b (loopAt b (codeOf fn)) = bs.map fun b => (b, loopAt b (codeOf fn))) (hl : Ls P ht f fn d ls)
  (h0 : ∀ v k, G 0 v k = none) : LoopOk P ht f fn d b p (G ROUNDS) := by
 intro e hd st v k hv hx
 refine loop_ok (lfn := fun n st k => lfP p (G n) st k) (rec := callsT cs) (calls_ok hc hd) (loopf := loopsT un ls) (loops_ok hl hd hbs) (fun st k h => ?_) (fun n st k h => ?_) ROUNDS _ k ?_
 ·unfold lfP at h
  split at h
  ·rw [h0] at h; cases h
  ·cases h
 ·unfold lfP at h
  split at h
  ·rename_i v hv
   obtain rfl := LPat.get_put hv
   exact (hs n v k).trans h
  ·cases h
 ·unfold lfP; simp only [hv]; exact hx
theorem all2 {d : Nat} {p : FPat} {F : p.T → KR → Option Bool} (h : ∀ v k, callK P ht d p.f (p.args.put v.1) (p.hp.put v.2) k = F v k) : FnOk P ht d p F :=
 fun _ he v k hx => callK_le he _ _ _ _ _ (fun _ _ h => h) ((h v k).trans hx)
end
end AX
end Go
