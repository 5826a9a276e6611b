/- What the plain functions answer: the law, without program or memory. -/
import Derived.Test.YthlclmhicgefpaaPurePackTells1
namespace Go.Proofs.Ythlclmhicgefpaa.packTells
open Go.AX Go.Proofs.Ythlclmhicgefpaa.k
set_option linter.unusedVariables false
set_option linter.unusedSimpArgs false
attribute [local congr] cond_congr
/-! the document's reading, four bytes later -/
def Ps.up (s : Ps) : Ps := ⟨s.a + 4, s.bad⟩
theorem rd_up {ns : List Int} (h4 : 4 ≤ ns.length) {a : Int} (ha : 0 ≤ a) (w : Int) (bad : Bool) : rd ns w (a + 4) bad = ((rd (ns.drop 4) w a bad).1, (rd (ns.drop 4) w a bad).2.1 + 4, (rd (ns.drop 4) w a bad).2.2) := by
  unfold rd
  have e1 : ((ns.drop 4).length : Int) - a = (ns.length : Int) - (a + 4) := by rw [List.length_drop]; omega
  have e2 : (ns.drop 4).drop a.toNat = ns.drop (a + 4).toNat := by rw [List.drop_drop]; congr 1; omega
  rw [e1, e2]
  split
  · rfl
  · exact Prod.ext rfl (Prod.ext (by show a + 4 + w = a + w + 4; omega) rfl)
theorem sgv_up {ns : List Int} (h4 : 4 ≤ ns.length) {a : Int} (ha : 0 ≤ a) (w : Int) (bad : Bool) : sgv ns w (a + 4) bad = sgv (ns.drop 4) w a bad := by
  unfold sgv sgn
  have e1 : ((ns.drop 4).length : Int) - a = (ns.length : Int) - (a + 4) := by rw [List.length_drop]; omega
  have e2 : (ns.drop 4).drop a.toNat = ns.drop (a + 4).toNat := by rw [List.drop_drop]; congr 1; omega
  have e3 : (ns.drop 4).getD a.toNat 0 = ns.getD (a + 4).toNat 0 := by
    rw [List.getD_eq_getElem?_getD, List.getElem?_drop, List.getD_eq_getElem?_getD]
    congr 2; omega
  rw [e1, e2, e3]
theorem up_num {ns : List Int} (h4 : 4 ≤ ns.length) {s : Ps} (hs : 0 ≤ s.a) (w : Int) : s.up.num ns w = (s.num (ns.drop 4) w).up := by
  unfold Ps.num Ps.up
  dsimp only
  rw [rd_up h4 hs]
theorem up_v {ns : List Int} (h4 : 4 ≤ ns.length) {s : Ps} (hs : 0 ≤ s.a) (w : Int) : s.up.v ns w = s.v (ns.drop 4) w := by
  unfold Ps.v Ps.up
  dsimp only
  rw [rd_up h4 hs]
theorem up_sv {ns : List Int} (h4 : 4 ≤ ns.length) {s : Ps} (hs : 0 ≤ s.a) (w : Int) : s.up.sv ns w = s.sv (ns.drop 4) w := by
  unfold Ps.sv Ps.up
  exact sgv_up h4 hs w s.bad
theorem up_insT {ns : List Int} (h4 : 4 ≤ ns.length) : ∀ (m : Nat) {s : Ps} {out : List In}, s.in_ (ns.drop 4) → insT ns m s.up out = ((insT (ns.drop 4) m s out).1.up, (insT (ns.drop 4) m s out).2)
  | 0, s, out, h => rfl
  | m + 1, s, out, h => by
    rw [insT, insT]
    by_cases hb : s.bad = true
    · rw [if_pos hb, if_pos (by exact hb)]
    · rw [if_neg hb, if_neg (by exact hb)]
      have h1 := Ps.num_in h 1
      have h2 := Ps.num_in h1 1
      have h3 := Ps.num_in h2 1
      have h5 := Ps.num_in h3 1
      have e : insN ns s.up = (insN (ns.drop 4) s).up ∧ insE ns s.up = insE (ns.drop 4) s := by
        unfold insN insE Ps.n4
        rw [up_num h4 h.1, up_num h4 h1.1, up_num h4 h2.1, up_num h4 h3.1, up_num h4 h5.1, up_v h4 h.1, up_v h4 h1.1, up_v h4 h2.1, up_v h4 h3.1, up_sv h4 h5.1]
        exact ⟨rfl, rfl⟩
      rw [e.1, e.2]
      exact up_insT h4 m (insN_in h)
theorem up_wrdT {ns : List Int} (h4 : 4 ≤ ns.length) : ∀ (m : Nat) {s : Ps} {out : List Int}, s.in_ (ns.drop 4) → wrdT ns m s.up out = ((wrdT (ns.drop 4) m s out).1.up, (wrdT (ns.drop 4) m s out).2)
  | 0, s, out, h => rfl
  | m + 1, s, out, h => by
    rw [wrdT, wrdT]
    by_cases hb : s.bad = true
    · rw [if_pos hb, if_pos (by exact hb)]
    · rw [if_neg hb, if_neg (by exact hb), up_num h4 h.1, up_v h4 h.1]
      exact up_wrdT h4 m (Ps.num_in h 8)
theorem up_fnsT {ns : List Int} (h4 : 4 ≤ ns.length) : ∀ (m : Nat) {s : Ps} {out : List FnT}, s.in_ (ns.drop 4) → fnsT ns m s.up out = ((fnsT (ns.drop 4) m s out).1.up, (fnsT (ns.drop 4) m s out).2)
  | 0, s, out, h => rfl
  | m + 1, s, out, h => by
    rw [fnsT, fnsT]
    by_cases hb : s.bad = true
    · rw [if_pos hb, if_pos (by exact hb)]
    · rw [if_neg hb, if_neg (by exact hb)]
      have h1 := Ps.num_in h 1
      have h2 := Ps.num_in h1 1
      have h3 := Ps.num_in h2 2
      have h5 := Ps.num_in h3 2
      have h6 := Ps.num_in h5 2
      have e : fnN ns s.up = (fnN (ns.drop 4) s).up ∧ fnE ns s.up = fnE (ns.drop 4) s := by
        unfold fnN fnE Ps.n4
        rw [up_num h4 h.1, up_num h4 h1.1, up_num h4 h2.1, up_num h4 h3.1, up_num h4 h5.1, up_num h4 h6.1, up_v h4 h.1, up_v h4 h1.1, up_v h4 h2.1, up_v h4 h3.1, up_v h4 h5.1, up_v h4 h6.1]
        exact ⟨rfl, rfl⟩
      rw [e.1, e.2]
      exact up_fnsT h4 m (fnN_in h)
def Bd.up (b : Bd) : Bd := ⟨b.e, b.c, b.w, b.f, b.s.up⟩
theorem up_body {ns : List Int} (h4 : 4 ≤ ns.length) {s : Ps} (h : s.in_ (ns.drop 4)) : bodyS ns s.up = (bodyS (ns.drop 4) s).up := by
  have h1 := Ps.num_in h 2
  have h2 := Ps.num_in h1 2
  unfold bodyS Bd.up
  dsimp only
  rw [up_v h4 h.1, up_num h4 h.1, up_v h4 h1.1, up_num h4 h1.1, up_insT h4 _ h2]
  dsimp only
  have h3 := insT_in (ns := ns.drop 4) ((s.num (ns.drop 4) 2).v (ns.drop 4) 2).toNat (out := []) h2
  generalize insT (ns.drop 4) ((s.num (ns.drop 4) 2).v (ns.drop 4) 2).toNat ((s.num (ns.drop 4) 2).num (ns.drop 4) 2) [] = q1 at h3 ⊢
  have h5 := Ps.num_in h3 2
  rw [up_v h4 h3.1, up_num h4 h3.1, up_wrdT h4 _ h5]
  dsimp only
  have h6 := wrdT_in (ns := ns.drop 4) (q1.1.v (ns.drop 4) 2).toNat (out := []) h5
  generalize wrdT (ns.drop 4) (q1.1.v (ns.drop 4) 2).toNat (q1.1.num (ns.drop 4) 2) [] = q2 at h6 ⊢
  have h7 := Ps.num_in h6 2
  rw [up_v h4 h6.1, up_num h4 h6.1, up_fnsT h4 _ h7]
theorem five_up {ns : List Int} (h4 : 4 ≤ ns.length) {a : Int} (ha : 0 ≤ a ∧ a ≤ ((ns.drop 4).length : Int)) (bad : Bool) : five ns (a + 4) bad = ⟨(five (ns.drop 4) a bad).a, (five (ns.drop 4) a bad).b, (five (ns.drop 4) a bad).c, (five (ns.drop 4) a bad).d, (five (ns.drop 4) a bad).e, (five (ns.drop 4) a bad).p + 4, (five (ns.drop 4) a bad).bad⟩ := by
  unfold five
  dsimp only
  rw [rd_up h4 ha.1]
  dsimp only
  have h1 := rd_at (ns := ns.drop 4) (w := 2) (bad := bad) ha
  rw [rd_up h4 h1.1]
  dsimp only
  have h2 := rd_at (ns := ns.drop 4) (w := 2) (bad := (rd (ns.drop 4) 2 a bad).2.2) h1
  rw [rd_up h4 h2.1]
  dsimp only
  have h3 := rd_at (ns := ns.drop 4) (w := 2) (bad := (rd (ns.drop 4) 2 (rd (ns.drop 4) 2 a bad).2.1 (rd (ns.drop 4) 2 a bad).2.2).2.2) h2
  rw [rd_up h4 h3.1]
  dsimp only
  generalize rd (ns.drop 4) 2 _ _ = q at h3 ⊢
  rw [rd_up h4 (rd_at h3).1]
theorem up_getS {ns : List Int} (h4 : 4 ≤ ns.length) : ∀ (m : Nat) {a : Int} {bad : Bool} {out : List Ru}, 0 ≤ a ∧ a ≤ ((ns.drop 4).length : Int) → getS ns m (a + 4) bad out = ((getS (ns.drop 4) m a bad out).1, (getS (ns.drop 4) m a bad out).2.1 + 4, (getS (ns.drop 4) m a bad out).2.2.1, (getS (ns.drop 4) m a bad out).2.2.2)
  | 0, a, bad, out, h => rfl
  | m + 1, a, bad, out, h => by
    rw [getS, getS, five_up h4 h]
    dsimp only
    have hf := five_at (ns := ns.drop 4) (bad := bad) h
    split
    · rfl
    · split
      · rfl
      · exact up_getS h4 m hf
/-- the next table, from anywhere: an error's number, where the reader is, the table -/
def tabA (ns : List Int) (s : Ps) : Int × Int × Bool × List Ru :=
  let g := getS ns (s.v ns 2).toNat (s.num ns 2).a (s.num ns 2).bad []
  if g.1 = 0 then (if g.2.2.1 = true then (5, g.2.1, true, []) else (0, g.2.1, g.2.2.1, g.2.2.2)) else (g.1, g.2.1, g.2.2.1, [])
theorem up_tabA {ns : List Int} (h4 : 4 ≤ ns.length) {s : Ps} (h : s.in_ (ns.drop 4)) : tabA ns s.up = ((tabA (ns.drop 4) s).1, (tabA (ns.drop 4) s).2.1 + 4, (tabA (ns.drop 4) s).2.2.1, (tabA (ns.drop 4) s).2.2.2) := by
  have h1 := Ps.num_in h 2
  unfold tabA
  rw [up_v h4 h.1, up_num h4 h.1]
  have e : (s.num (ns.drop 4) 2).up.a = (s.num (ns.drop 4) 2).a + 4 := rfl
  have e2 : (s.num (ns.drop 4) 2).up.bad = (s.num (ns.drop 4) 2).bad := rfl
  rw [e, e2, up_getS h4 _ h1]
  dsimp only
  split
  · split <;> rfl
  · rfl
theorem tget_ {ns : List Int} (h : bytesOk ns) (hl : ns.length ≤ 100000) {s : Ps} (hs : s.in_ ns) (k : Int → Int → Bool → Bool → List Int → List Ru → Option Bool) : runs_Get s.a true s.bad ns k = k (tabA ns s).1 (tabA ns s).2.1 true (tabA ns s).2.2.1 ns (tabA ns s).2.2.2 := by
  unfold runs_Get runs_Get.body tabA
  have hv := Ps.v_lt h hs
  have ha := Ps.num_in hs 2
  rw [pnum_ h hl hs]
  have := getL h hl (fun n1315 n1316 b1317 b1318 ns1319 => k n1315 n1316 b1317 b1318 ns1319 []) (fun n1320 b1321 b1322 ns1323 ts1324 => octet_Reader_Bad n1320 b1321 b1322 ns1323 fun b1325 n1326 b1327 b1328 ns1329 => cond_ b1325 (k 5 n1326 b1327 b1328 ns1329 []) (k 0 n1326 b1327 b1328 ns1329 ts1324)) ROUNDS (s.v ns 2).toNat 0 (s.num ns 2).a (s.num ns 2).bad [] ha (by omega) (by simp) (by have := rb; omega)
  rw [show ((0 + (s.v ns 2).toNat : Nat) : Int) = s.v ns 2 by omega] at this
  refine this.trans ?_
  generalize getS ns (s.v ns 2).toNat (s.num ns 2).a (s.num ns 2).bad [] = g
  dsimp only
  by_cases c : g.1 = 0
  · rw [if_pos c, if_pos c, bad_]
    by_cases c2 : g.2.2.1 = true
    · rw [if_pos c2, c2, cond_t]
    · rw [if_neg c2]
      rw [Bool.not_eq_true] at c2
      rw [c2, cond_f]
  · rw [if_neg c, if_neg c]
theorem rtget_ {ns : List Int} (h : bytesOk ns) (hl : ns.length ≤ 100000) {s : Ps} (hs : s.in_ ns) (k : Rd → Int → List Ru → Option Bool) : ref13_Get (ns, (s.a, (s.bad, ()))) k = k (ns, ((tabA ns s).2.1, ((tabA ns s).2.2.1, ()))) (tabA ns s).1 (tabA ns s).2.2.2 := by
  unfold ref13_Get ref13_Get.body tabA
  have hv := Ps.v_lt h hs
  have ha := Ps.num_in hs 2
  rw [rpnum_ h hl hs]
  have := rgetL h hl 0 false (fun n784 l785 n786 b787 => k (l785, (n786, (b787, ()))) n784 []) (fun t788 n789 b790 ts791 => cond_ t788.2.2.1 (k (t788.1, (t788.2.1, (t788.2.2.1, ()))) 5 []) (k (t788.1, (t788.2.1, (t788.2.2.1, ()))) 0 ts791)) ROUNDS (s.v ns 2).toNat 0 (s.num ns 2).a (s.num ns 2).bad [] ha (by omega) (by simp) (by have := rb; omega)
  rw [show ((0 + (s.v ns 2).toNat : Nat) : Int) = s.v ns 2 by omega] at this
  refine this.trans ?_
  generalize getS ns (s.v ns 2).toNat (s.num ns 2).a (s.num ns 2).bad [] = g
  dsimp only
  by_cases c : g.1 = 0
  · rw [if_pos c, if_pos c]
    by_cases c2 : g.2.2.1 = true
    · rw [if_pos c2, c2, cond_t]
    · rw [if_neg c2]
      rw [Bool.not_eq_true] at c2
      rw [c2, cond_f]
  · rw [if_neg c, if_neg c]
theorem r4_ {ns : List Int} (h : bytesOk ns) (hl : ns.length ≤ 100000) {s : Ps} (hs : s.in_ ns) (k : Rd → List Int → Option Bool) : ref13_Nums (ns, (s.a, (s.bad, ()))) [1, 1, 1, 1] k = k (ns, ((s.n4 ns 1).a, ((s.n4 ns 1).bad, ()))) [s.v ns 1, (s.num ns 1).v ns 1, ((s.num ns 1).num ns 1).v ns 1, (((s.num ns 1).num ns 1).num ns 1).v ns 1] := by
  rw [nums_ h hl _ (by simp) hs]
  rfl
theorem r6_ {ns : List Int} (h : bytesOk ns) (hl : ns.length ≤ 100000) {s : Ps} (hs : s.in_ ns) (k : Rd → List Int → Option Bool) : ref13_Nums (ns, (s.a, (s.bad, ()))) [1, 1, 2, 2, 2, 2] k = k (ns, ((fnN ns s).a, ((fnN ns s).bad, ()))) [(fnE ns s).1, (fnE ns s).2.1, (fnE ns s).2.2.1, (fnE ns s).2.2.2.1, (fnE ns s).2.2.2.2.1, (fnE ns s).2.2.2.2.2.1] := by
  rw [nums_ h hl _ (by simp) hs]
  rfl
theorem r2_ {ns : List Int} (h : bytesOk ns) (hl : ns.length ≤ 100000) {s : Ps} (hs : s.in_ ns) (k : Rd → List Int → Option Bool) : ref13_Nums (ns, (s.a, (s.bad, ()))) [2, 2] k = k (ns, (((s.num ns 2).num ns 2).a, (((s.num ns 2).num ns 2).bad, ()))) [s.v ns 2, (s.num ns 2).v ns 2] := by
  rw [nums_ h hl _ (by simp) hs]
  rfl
theorem r1_ {ns : List Int} (h : bytesOk ns) (hl : ns.length ≤ 100000) {s : Ps} (hs : s.in_ ns) (k : Rd → List Int → Option Bool) : ref13_Nums (ns, (s.a, (s.bad, ()))) [2] k = k (ns, ((s.num ns 2).a, ((s.num ns 2).bad, ()))) [s.v ns 2] := by
  rw [nums_ h hl _ (by simp) hs]
  rfl
theorem rt0L {ns : List Int} (h : bytesOk ns) (hl : ns.length ≤ 100000) (x y z : Int) (c : Nat) (hc : c ≤ 65536) (K : List Int → Int → List Int → Int → Bool → Int → List In → Option Bool) : ∀ (n m i : Nat) (s : Ps) (out : List In), s.in_ ns → i + m = c → out.length ≤ i → m < n →
    ref35_inner_L0 n ns (i : Int) x ns s.a s.bad [z, (c : Int)] y out K = K ns x ns (insT ns m s out).1.a (insT ns m s out).1.bad y (insT ns m s out).2
  | 0, m, i, s, out, _, _, _, g => by omega
  | n + 1, 0, i, s, out, hs, h1, h2, h3 => by
    rw [ref35_inner_L0]
    unfold ref35_inner_L0.body insT
    simp (disch := first | omega | (simp only [List.length_append, List.length_cons, List.length_nil, List.length_set, List.length_take, List.length_drop, List.length_replicate]; omega) | fail) only [cond_t, cond_f, dt, df, w64, wu64, w8, ble_t, ble_f, ieqt, ieqf, inet, inef, Bool.not_true, Bool.not_false, Bool.true_and, Bool.and_true, Bool.false_and, Bool.and_false, Bool.not_not, dTrue, dFalse, Int.toNat_natCast, List.length_append, List.length_cons, List.length_nil, meet_self, List.getD_cons_succ, List.getD_cons_zero]
  | n + 1, m + 1, i, s, out, hs, h1, h2, h3 => by
    rw [ref35_inner_L0]
    unfold ref35_inner_L0.body insT
    simp (disch := first | omega | (simp only [List.length_append, List.length_cons, List.length_nil, List.length_set, List.length_take, List.length_drop, List.length_replicate]; omega) | fail) only [cond_t, cond_f, dt, df, w64, wu64, w8, ble_t, ble_f, ieqt, ieqf, inet, inef, Bool.not_true, Bool.not_false, Bool.true_and, Bool.and_true, Bool.false_and, Bool.and_false, Bool.not_not, dTrue, dFalse, Int.toNat_natCast, List.length_append, List.length_cons, List.length_nil, meet_self, List.getD_cons_succ, List.getD_cons_zero]
    by_cases hb : s.bad = true
    · rw [if_pos hb, hb]
      simp (disch := first | omega | (simp only [List.length_append, List.length_cons, List.length_nil, List.length_set, List.length_take, List.length_drop, List.length_replicate]; omega) | fail) only [cond_t, cond_f, dt, df, w64, wu64, w8, ble_t, ble_f, ieqt, ieqf, inet, inef, Bool.not_true, Bool.not_false, Bool.true_and, Bool.and_true, Bool.false_and, Bool.and_false, Bool.not_not, dTrue, dFalse, Int.toNat_natCast, List.length_append, List.length_cons, List.length_nil, meet_self]
    · have hf := eq_false_of_ne_true hb
      rw [if_neg hb, cond_pos (by rw [hf]; rfl), r4_ h hl hs]
      refine (rpsig_ h hl (s := s.n4 ns 1) (Ps.num_in (Ps.num_in (Ps.num_in (Ps.num_in hs 1) 1) 1) 1) 4 _).trans ?_
      simp (disch := first | omega | (simp only [List.length_append, List.length_cons, List.length_nil, List.length_set, List.length_take, List.length_drop, List.length_replicate]; omega) | fail) only [cond_t, cond_f, dt, df, w64, wu64, w8, ble_t, ble_f, ieqt, ieqf, inet, inef, Bool.not_true, Bool.not_false, Bool.true_and, Bool.and_true, Bool.false_and, Bool.and_false, Bool.not_not, dTrue, dFalse, Int.toNat_natCast, List.length_append, List.length_cons, List.length_nil, meet_self, List.getD_cons_succ, List.getD_cons_zero]
      exact rt0L h hl x y z c hc K n m (i + 1) (insN ns s) (out ++ [insE ns s]) (insN_in hs) (by omega) (by simp; omega) (by omega)
theorem rt2L {ns : List Int} (h : bytesOk ns) (hl : ns.length ≤ 100000) (x y : Int) (z : List In) (c : Nat) (hc : c ≤ 65536) (K : List Int → Int → List Int → Int → Bool → Int → List In → List Int → Option Bool) : ∀ (n m i : Nat) (s : Ps) (out : List Int), s.in_ ns → i + m = c → out.length ≤ i → m < n →
    ref35_inner_L2 n ns (i : Int) x ns s.a s.bad [(c : Int)] y z out K = K ns x ns (wrdT ns m s out).1.a (wrdT ns m s out).1.bad y z (wrdT ns m s out).2
  | 0, m, i, s, out, _, _, _, g => by omega
  | n + 1, 0, i, s, out, hs, h1, h2, h3 => by
    rw [ref35_inner_L2]
    unfold ref35_inner_L2.body wrdT
    simp (disch := first | omega | (simp only [List.length_append, List.length_cons, List.length_nil, List.length_set, List.length_take, List.length_drop, List.length_replicate]; omega) | fail) only [cond_t, cond_f, dt, df, w64, wu64, w8, ble_t, ble_f, ieqt, ieqf, inet, inef, Bool.not_true, Bool.not_false, Bool.true_and, Bool.and_true, Bool.false_and, Bool.and_false, Bool.not_not, dTrue, dFalse, Int.toNat_natCast, List.length_append, List.length_cons, List.length_nil, meet_self, List.getD_cons_succ, List.getD_cons_zero]
  | n + 1, m + 1, i, s, out, hs, h1, h2, h3 => by
    rw [ref35_inner_L2]
    unfold ref35_inner_L2.body wrdT
    simp (disch := first | omega | (simp only [List.length_append, List.length_cons, List.length_nil, List.length_set, List.length_take, List.length_drop, List.length_replicate]; omega) | fail) only [cond_t, cond_f, dt, df, w64, wu64, w8, ble_t, ble_f, ieqt, ieqf, inet, inef, Bool.not_true, Bool.not_false, Bool.true_and, Bool.and_true, Bool.false_and, Bool.and_false, Bool.not_not, dTrue, dFalse, Int.toNat_natCast, List.length_append, List.length_cons, List.length_nil, meet_self, List.getD_cons_succ, List.getD_cons_zero]
    by_cases hb : s.bad = true
    · rw [if_pos hb, hb]
      simp (disch := first | omega | (simp only [List.length_append, List.length_cons, List.length_nil, List.length_set, List.length_take, List.length_drop, List.length_replicate]; omega) | fail) only [cond_t, cond_f, dt, df, w64, wu64, w8, ble_t, ble_f, ieqt, ieqf, inet, inef, Bool.not_true, Bool.not_false, Bool.true_and, Bool.and_true, Bool.false_and, Bool.and_false, Bool.not_not, dTrue, dFalse, Int.toNat_natCast, List.length_append, List.length_cons, List.length_nil, meet_self]
    · have hf := eq_false_of_ne_true hb
      rw [if_neg hb, cond_pos (by rw [hf]; rfl), rpnum_ h hl hs]
      simp (disch := first | omega | (simp only [List.length_append, List.length_cons, List.length_nil, List.length_set, List.length_take, List.length_drop, List.length_replicate]; omega) | fail) only [cond_t, cond_f, dt, df, w64, wu64, w8, ble_t, ble_f, ieqt, ieqf, inet, inef, Bool.not_true, Bool.not_false, Bool.true_and, Bool.and_true, Bool.false_and, Bool.and_false, Bool.not_not, dTrue, dFalse, Int.toNat_natCast, List.length_append, List.length_cons, List.length_nil, meet_self]
      exact rt2L h hl x y z c hc K n m (i + 1) (s.num ns 8) (out ++ [s.v ns 8]) (Ps.num_in hs 8) (by omega) (by simp; omega) (by omega)
theorem rt4L {ns : List Int} (h : bytesOk ns) (hl : ns.length ≤ 100000) (x y : Int) (z : List In) (z2 : List Int) (c : Nat) (hc : c ≤ 65536) (K : List Int → Int → List Int → Int → Bool → Int → List In → List Int → List FnT → Option Bool) : ∀ (n m i : Nat) (s : Ps) (out : List FnT), s.in_ ns → i + m = c → out.length ≤ i → m < n →
    ref35_inner_L4 n ns (i : Int) x ns s.a s.bad [(c : Int)] y z z2 out K = K ns x ns (fnsT ns m s out).1.a (fnsT ns m s out).1.bad y z z2 (fnsT ns m s out).2
  | 0, m, i, s, out, _, _, _, g => by omega
  | n + 1, 0, i, s, out, hs, h1, h2, h3 => by
    rw [ref35_inner_L4]
    unfold ref35_inner_L4.body fnsT
    simp (disch := first | omega | (simp only [List.length_append, List.length_cons, List.length_nil, List.length_set, List.length_take, List.length_drop, List.length_replicate]; omega) | fail) only [cond_t, cond_f, dt, df, w64, wu64, w8, ble_t, ble_f, ieqt, ieqf, inet, inef, Bool.not_true, Bool.not_false, Bool.true_and, Bool.and_true, Bool.false_and, Bool.and_false, Bool.not_not, dTrue, dFalse, Int.toNat_natCast, List.length_append, List.length_cons, List.length_nil, meet_self, List.getD_cons_succ, List.getD_cons_zero]
  | n + 1, m + 1, i, s, out, hs, h1, h2, h3 => by
    rw [ref35_inner_L4]
    unfold ref35_inner_L4.body fnsT
    simp (disch := first | omega | (simp only [List.length_append, List.length_cons, List.length_nil, List.length_set, List.length_take, List.length_drop, List.length_replicate]; omega) | fail) only [cond_t, cond_f, dt, df, w64, wu64, w8, ble_t, ble_f, ieqt, ieqf, inet, inef, Bool.not_true, Bool.not_false, Bool.true_and, Bool.and_true, Bool.false_and, Bool.and_false, Bool.not_not, dTrue, dFalse, Int.toNat_natCast, List.length_append, List.length_cons, List.length_nil, meet_self, List.getD_cons_succ, List.getD_cons_zero]
    by_cases hb : s.bad = true
    · rw [if_pos hb, hb]
      simp (disch := first | omega | (simp only [List.length_append, List.length_cons, List.length_nil, List.length_set, List.length_take, List.length_drop, List.length_replicate]; omega) | fail) only [cond_t, cond_f, dt, df, w64, wu64, w8, ble_t, ble_f, ieqt, ieqf, inet, inef, Bool.not_true, Bool.not_false, Bool.true_and, Bool.and_true, Bool.false_and, Bool.and_false, Bool.not_not, dTrue, dFalse, Int.toNat_natCast, List.length_append, List.length_cons, List.length_nil, meet_self]
    · have hf := eq_false_of_ne_true hb
      rw [if_neg hb, cond_pos (by rw [hf]; rfl), r6_ h hl hs]
      simp (disch := first | omega | (simp only [List.length_append, List.length_cons, List.length_nil, List.length_set, List.length_take, List.length_drop, List.length_replicate]; omega) | fail) only [cond_t, cond_f, dt, df, w64, wu64, w8, ble_t, ble_f, ieqt, ieqf, inet, inef, Bool.not_true, Bool.not_false, Bool.true_and, Bool.and_true, Bool.false_and, Bool.and_false, Bool.not_not, dTrue, dFalse, Int.toNat_natCast, List.length_append, List.length_cons, List.length_nil, meet_self, List.getD_cons_succ, List.getD_cons_zero]
      exact rt4L h hl x y z z2 c hc K n m (i + 1) (fnN ns s) (out ++ [fnE ns s]) (fnN_in hs) (by omega) (by simp; omega) (by omega)
/-! images -/
def zM : Im := ([], ([], ([], ([], (0, ())))))
def mag (ns : List Int) : Bool := (ByteArray.toList (strOf (List.take 4 (List.drop 0 ns)))) == (ByteArray.toList (⟨#[83, 72, 73, 49]⟩ : ByteArray))
theorem left_ {ns : List Int} (hl : ns.length ≤ 100000) {a : Int} (ha : 0 ≤ a ∧ a ≤ (ns.length : Int)) (bad : Bool) (k : Int → Int → Bool → Bool → List Int → Option Bool) : octet_Reader_Left a true bad ns k = k ((ns.length : Int) - a) a true bad ns := by
  unfold octet_Reader_Left octet_Reader_Left.body
  rw [w64 (n := (ns.length : Int) - a) (by omega) (by omega)]
theorem new_ {ns : List Int} (hl : ns.length ≤ 100000) (k : Int → Bool → Bool → List Int → Option Bool) : octet_New ns k = k 0 true false ns := by
  unfold octet_New octet_New.body
  rw [ble_t (by omega), cond_t]
  rfl
theorem getS_at {ns : List Int} : ∀ (m : Nat) {a : Int} {bad : Bool} {out : List Ru}, 0 ≤ a ∧ a ≤ (ns.length : Int) → 0 ≤ (getS ns m a bad out).2.1 ∧ (getS ns m a bad out).2.1 ≤ (ns.length : Int)
  | 0, a, bad, out, h => h
  | m + 1, a, bad, out, h => by
    rw [getS]
    have hf := five_at (ns := ns) (bad := bad) h
    split
    · exact hf
    · split
      · exact hf
      · exact getS_at m hf
theorem tabA_at {ns : List Int} {s : Ps} (hs : s.in_ ns) : 0 ≤ (tabA ns s).2.1 ∧ (tabA ns s).2.1 ≤ (ns.length : Int) := by
  have h := getS_at (ns := ns) (s.v ns 2).toNat (bad := (s.num ns 2).bad) (out := []) (Ps.num_in hs 2)
  unfold tabA
  dsimp only
  split
  · split <;> exact h
  · exact h
theorem tabA_len {ns : List Int} (hb : bytesOk ns) {s : Ps} (hs : s.in_ ns) : (tabA ns s).2.2.2.length ≤ 100000 := by
  have hv := Ps.v_lt hb hs
  have h := getS_len ns (s.v ns 2).toNat (s.num ns 2).a (s.num ns 2).bad []
  simp only [List.length_nil] at h
  unfold tabA
  dsimp only
  split
  · split
    · exact Nat.zero_le _
    · dsimp only; omega
  · exact Nat.zero_le _
theorem body_in {ns : List Int} {s : Ps} (hs : s.in_ ns) : (bodyS ns s).s.in_ ns := by
  unfold bodyS
  dsimp only
  exact fnsT_in _ (Ps.num_in (wrdT_in _ (Ps.num_in (insT_in _ (Ps.num_in (Ps.num_in hs 2) 2)) 2)) 2)
theorem body_len {ns : List Int} (hb : bytesOk ns) {s : Ps} (hs : s.in_ ns) : (bodyS ns s).c.length ≤ 65535 ∧ (bodyS ns s).w.length ≤ 65535 ∧ (bodyS ns s).f.length ≤ 100000 := by
  have i1 := Ps.num_in hs 2
  have i3 := insT_in (ns := ns) ((s.num ns 2).v ns 2).toNat (out := []) (Ps.num_in i1 2)
  have v1 := Ps.v_lt hb i1
  have l1 := insT_len (ns := ns) ((s.num ns 2).v ns 2).toNat ((s.num ns 2).num ns 2) []
  simp only [List.length_nil] at l1
  unfold bodyS
  dsimp only
  generalize insT ns ((s.num ns 2).v ns 2).toNat ((s.num ns 2).num ns 2) [] = q1 at i3 l1 ⊢
  have i5 := wrdT_in (ns := ns) (q1.1.v ns 2).toNat (out := []) (Ps.num_in i3 2)
  have v2 := Ps.v_lt hb i3
  have l2 := wrdT_len (ns := ns) (q1.1.v ns 2).toNat (q1.1.num ns 2) []
  simp only [List.length_nil] at l2
  generalize wrdT ns (q1.1.v ns 2).toNat (q1.1.num ns 2) [] = q2 at i5 l2 ⊢
  have v3 := Ps.v_lt hb i5
  have l3 := fnsT_len (ns := ns) (q2.1.v ns 2).toNat (q2.1.num ns 2) []
  simp only [List.length_nil] at l3
  exact ⟨by omega, by omega, by omega⟩
def p0 : Ps := ⟨0, false⟩
def bd (ns : List Int) : Bd := bodyS (ns.drop 4) p0
def tb (ns : List Int) : Int × Int × Bool × List Ru := tabA (ns.drop 4) (bd ns).s
noncomputable def innS (ns : List Int) : Im × Int := if ns.length < 4 then (zM, 5) else if mag ns = false then (zM, 3) else if (bd ns).s.bad = true then (((bd ns).c, (bd ns).w, (bd ns).f, [], (bd ns).e, ()), 5) else if (tb ns).1 ≠ 0 then (((bd ns).c, (bd ns).w, (bd ns).f, (tb ns).2.2.2, (bd ns).e, ()), (tb ns).1) else
  if ((ns.drop 4).length : Int) - (tb ns).2.1 > 0 then (((bd ns).c, (bd ns).w, (bd ns).f, (tb ns).2.2.2, (bd ns).e, ()), 6) else (((bd ns).c, (bd ns).w, (bd ns).f, (tb ns).2.2.2, (bd ns).e, ()), imS (bd ns).c (bd ns).w (bd ns).f (tb ns).2.2.2 (bd ns).e)
noncomputable def innR (ns : List Int) : Im × Int := if ns.length < 4 then (zM, 5) else if mag ns = false then (zM, 3) else if (bd ns).s.bad = true then (zM, 5) else if (tb ns).1 ≠ 0 then (zM, (tb ns).1) else
  if ((ns.drop 4).length : Int) - (tb ns).2.1 > 0 then (zM, 6) else (((bd ns).c, (bd ns).w, (bd ns).f, (tb ns).2.2.2, (bd ns).e, ()), imS (bd ns).c (bd ns).w (bd ns).f (tb ns).2.2.2 (bd ns).e)
theorem p0_in (ns : List Int) : p0.in_ ns := ⟨Int.le_refl _, by show (0 : Int) ≤ _; omega⟩
theorem few_bd {ns : List Int} (h : bytesOk ns) : FewI (bd ns).c (bd ns).w (bd ns).f (tb ns).2.2.2 (bd ns).e := by
  have hb := bytesOk_drop h 4
  have l := body_len hb (p0_in (ns.drop 4))
  exact ⟨l.1, l.2.1, l.2.2, tabA_len hb (body_in (p0_in (ns.drop 4)))⟩
theorem inner_ {ns : List Int} (h : bytesOk ns) (hl : ns.length ≤ 100000) (k : Im → Int → Option Bool) : pack_inner ns k = k (innS ns).1 (innS ns).2 := by
  have hb := bytesOk_drop h 4
  have hl4 : (ns.drop 4).length ≤ 100000 := by rw [List.length_drop]; omega
  unfold pack_inner pack_inner.body innS
  by_cases c1 : ns.length < 4
  · rw [if_pos c1, cond_pos (dt (by omega))]; rfl
  · rw [if_neg c1, cond_neg (df (by omega)), cond_pos (by rw [dt (by omega)]; rfl)]
    by_cases c2 : mag ns = false
    · rw [if_pos c2]
      exact cond_pos (by show (!mag ns) = true; rw [c2]; rfl)
    · rw [if_neg c2]
      refine (cond_neg (by show (!mag ns) = false; rw [eq_true_of_ne_false c2]; rfl)).trans ?_
      rw [cond_pos (by rw [dt (by omega)]; rfl), List.take_of_length_le (by rw [List.length_drop]; omega), new_ hl4, body_ hb hl4]
      show octet_Reader_Bad (bd ns).s.a true (bd ns).s.bad (ns.drop 4) _ = _
      rw [bad_]
      by_cases c3 : (bd ns).s.bad = true
      · rw [if_pos c3]
        exact cond_pos c3
      · rw [if_neg c3]
        refine (cond_neg (eq_false_of_ne_true c3)).trans ?_
        have hi := body_in (p0_in (ns.drop 4))
        have ht := tabA_at hi
        rw [tget_ hb hl4 (s := (bd ns).s) hi]
        by_cases c4 : (tb ns).1 = 0
        · rw [if_neg (fun g => g c4)]
          refine (cond_neg (inef c4)).trans ?_
          refine (left_ hl4 ht _ _).trans ?_
          by_cases c5 : ((ns.drop 4).length : Int) - (tb ns).2.1 > 0
          · rw [if_pos c5]
            exact cond_pos (dt c5)
          · rw [if_neg c5]
            refine (cond_neg (df c5)).trans ?_
            exact Check_ _ _ _ _ _ (few_bd h) _
        · rw [if_pos c4]
          exact cond_pos (inet c4)
theorem rinner_ {ns : List Int} (h : bytesOk ns) (hl : ns.length ≤ 100000) (k : Im → Int → Option Bool) : ref35_inner ns k = k (innR ns).1 (innR ns).2 := by
  unfold ref35_inner ref35_inner.body innR
  by_cases c1 : ns.length < 4
  · rw [if_pos c1, cond_pos (dt (by omega))]; rfl
  · rw [if_neg c1, cond_neg (df (by omega)), cond_pos (by rw [dt (by omega)]; rfl)]
    by_cases c2 : mag ns = false
    · rw [if_pos c2]
      exact cond_pos (by show (!mag ns) = true; rw [c2]; rfl)
    · rw [if_neg c2]
      refine (cond_neg (by show (!mag ns) = false; rw [eq_true_of_ne_false c2]; rfl)).trans ?_
      have h4 : 4 ≤ ns.length := by omega
      have i0 : p0.up.in_ ns := ⟨by decide, by show (4 : Int) ≤ _; omega⟩
      have i1 := Ps.num_in i0 2
      have i2 := Ps.num_in i1 2
      have v1 := Ps.v_lt h i1
      refine (r2_ h hl i0 _).trans ?_
      simp (disch := first | omega | (simp only [List.length_append, List.length_cons, List.length_nil, List.length_set, List.length_take, List.length_drop, List.length_replicate]; omega) | fail) only [cond_t, cond_f, dt, df, w64, wu64, w8, ble_t, ble_f, ieqt, ieqf, inet, inef, Bool.not_true, Bool.not_false, Bool.true_and, Bool.and_true, Bool.false_and, Bool.and_false, Bool.not_not, dTrue, dFalse, Int.toNat_natCast, List.length_append, List.length_cons, List.length_nil, meet_self, List.getD_cons_succ, List.getD_cons_zero]
      have c1' : ((p0.up.num ns 2).v ns 2) = ((((p0.up.num ns 2).v ns 2).toNat : Nat) : Int) := by omega
      rw [c1']
      refine (rt0L h hl 0 (p0.up.v ns 2) (p0.up.v ns 2) ((p0.up.num ns 2).v ns 2).toNat (by omega) _ ROUNDS ((p0.up.num ns 2).v ns 2).toNat 0 ((p0.up.num ns 2).num ns 2) [] i2 (by omega) (by simp) (by have := rb; omega)).trans ?_
      have i3 := insT_in (ns := ns) ((p0.up.num ns 2).v ns 2).toNat (out := []) i2
      have hbd : bodyS ns p0.up = (bd ns).up := up_body h4 (p0_in _)
      unfold bodyS at hbd
      dsimp only at hbd
      generalize insT ns ((p0.up.num ns 2).v ns 2).toNat ((p0.up.num ns 2).num ns 2) [] = q1 at i3 hbd ⊢
      have i4 := Ps.num_in i3 2
      have v2 := Ps.v_lt h i3
      refine (r1_ h hl i3 _).trans ?_
      have c2' : (q1.1.v ns 2) = (((q1.1.v ns 2).toNat : Nat) : Int) := by omega
      rw [c2']
      refine (rt2L h hl 0 (p0.up.v ns 2) q1.2 (q1.1.v ns 2).toNat (by omega) _ ROUNDS (q1.1.v ns 2).toNat 0 (q1.1.num ns 2) [] i4 (by omega) (by simp) (by have := rb; omega)).trans ?_
      have i5 := wrdT_in (ns := ns) (q1.1.v ns 2).toNat (out := []) i4
      generalize wrdT ns (q1.1.v ns 2).toNat (q1.1.num ns 2) [] = q2 at i5 hbd ⊢
      have i6 := Ps.num_in i5 2
      have v3 := Ps.v_lt h i5
      refine (r1_ h hl i5 _).trans ?_
      have c3' : (q2.1.v ns 2) = (((q2.1.v ns 2).toNat : Nat) : Int) := by omega
      rw [c3']
      refine (rt4L h hl 0 (p0.up.v ns 2) q1.2 q2.2 (q2.1.v ns 2).toNat (by omega) _ ROUNDS (q2.1.v ns 2).toNat 0 (q2.1.num ns 2) [] i6 (by omega) (by simp) (by have := rb; omega)).trans ?_
      have i7 := fnsT_in (ns := ns) (q2.1.v ns 2).toNat (out := []) i6
      generalize fnsT ns (q2.1.v ns 2).toNat (q2.1.num ns 2) [] = q3 at i7 hbd ⊢
      unfold Bd.up at hbd
      injection hbd with b1 b2 b3 b4 b5
      rw [b1, b2, b3, b4, b5]
      have hi := body_in (p0_in (ns.drop 4))
      have htb := up_tabA h4 (s := (bd ns).s) hi
      have hlen : ((ns.drop 4).length : Int) = (ns.length : Int) - 4 := by rw [List.length_drop]; omega
      by_cases c3 : (bd ns).s.bad = true
      · rw [if_pos c3]
        exact cond_pos c3
      · rw [if_neg c3]
        refine (cond_neg (eq_false_of_ne_true c3)).trans ?_
        refine (rtget_ h hl (s := (bd ns).s.up) (b5 ▸ i7) _).trans ?_
        rw [htb]
        by_cases c4 : (tb ns).1 = 0
        · rw [if_neg (fun g => g c4)]
          refine (cond_neg (inef c4)).trans ?_
          by_cases c5 : ((ns.drop 4).length : Int) - (tb ns).2.1 > 0
          · rw [if_pos c5]
            exact cond_pos (dt (by show (tb ns).2.1 + 4 < _; omega))
          · rw [if_neg c5]
            refine (cond_neg (df (by show ¬ (tb ns).2.1 + 4 < _; omega))).trans ?_
            exact rCheck_ _ _ _ _ _ (few_bd h) _
        · rw [if_pos c4]
          exact cond_pos (inet c4)
def cut2 (x : Im × Int) : Im × Int := if x.2 = 0 then x else (zM, x.2)
theorem inn_eq (ns : List Int) : cut2 (innS ns) = cut2 (innR ns) := by
  unfold innS innR
  split
  · rfl
  · split
    · rfl
    · split
      · rfl
      · split
        · rename_i c
          unfold cut2
          rw [if_neg c, if_neg c]
        · split
          · rfl
          · rfl
noncomputable def resS (ns : List Int) : Im × Int := if (openS ns).2 ≠ 0 then (zM, (openS ns).2) else cut2 (innS (openS ns).1)
theorem openS_ok {ns : List Int} (h : bytesOk ns) (hl : ns.length ≤ 60000) : bytesOk (openS ns).1 ∧ (openS ns).1.length ≤ 100000 := by
  unfold openS
  split
  · exact ⟨fun x hx => absurd hx List.not_mem_nil, Nat.zero_le _⟩
  · split
    · exact ⟨bytesOk_take h _, by rw [List.length_take]; omega⟩
    · exact ⟨fun x hx => absurd hx List.not_mem_nil, Nat.zero_le _⟩
theorem pget_ {ns : List Int} (h : bytesOk ns) (hl : ns.length ≤ 60000) (k : Im → Int → Option Bool) : pack_Getv2 ns k = k (resS ns).1 (resS ns).2 := by
  obtain ⟨h1, h2⟩ := openS_ok h hl
  unfold pack_Getv2 pack_Getv2.body resS
  rw [open_ h hl]
  by_cases c : (openS ns).2 = 0
  · rw [if_neg (fun g => g c)]
    refine (cond_neg (inef c)).trans ?_
    rw [inner_ h1 h2]
    unfold cut2
    by_cases c2 : (innS (openS ns).1).2 = 0
    · rw [if_pos c2]
      refine (cond_neg (inef c2)).trans ?_
      rw [c2]
    · rw [if_neg c2]
      exact cond_pos (inet c2)
  · rw [if_pos c]
    exact cond_pos (inet c)
theorem rpget_ {ns : List Int} (h : bytesOk ns) (hl : ns.length ≤ 60000) (k : Im → Int → Option Bool) : ref35_Get ns k = k (resS ns).1 (resS ns).2 := by
  obtain ⟨h1, h2⟩ := openS_ok h hl
  unfold ref35_Get ref35_Get.body resS
  rw [ropen_ h hl]
  by_cases c : (openS ns).2 = 0
  · rw [if_neg (fun g => g c), inn_eq]
    refine (cond_neg (inef c)).trans ?_
    rw [rinner_ h1 h2]
    unfold cut2
    by_cases c2 : (innR (openS ns).1).2 = 0
    · rw [if_pos c2]
      refine (cond_neg (inef c2)).trans ?_
      rw [c2]
    · rw [if_neg c2]
      exact cond_pos (inet c2)
  · rw [if_pos c]
    exact cond_pos (inet c)
structure FinM (t : Im) : Prop where
  a : t.1.length ≤ 100000
  b : t.2.1.length ≤ 100000
  c : t.2.2.1.length ≤ 100000
  d : t.2.2.2.1.length ≤ 100000
theorem innS_fin {ns : List Int} (h : bytesOk ns) : FinM (cut2 (innS ns)).1 := by
  have hz : FinM zM := ⟨Nat.zero_le _, Nat.zero_le _, Nat.zero_le _, Nat.zero_le _⟩
  rw [inn_eq]
  have : FinM (innR ns).1 := by
    unfold innR
    split
    · exact hz
    · split
      · exact hz
      · split
        · exact hz
        · split
          · exact hz
          · split
            · exact hz
            · have l := few_bd h
              exact ⟨Nat.le_trans l.a (by omega), Nat.le_trans l.b (by omega), l.c, l.d⟩
  unfold cut2
  split
  · exact this
  · exact hz
theorem resS_fin {ns : List Int} (h : bytesOk ns) (hl : ns.length ≤ 60000) : FinM (resS ns).1 := by
  unfold resS
  split
  · exact ⟨Nat.zero_le _, Nat.zero_le _, Nat.zero_le _, Nat.zero_le _⟩
  · exact innS_fin (openS_ok h hl).1
theorem ref32_Samev1_L0_ (a : List Ins) (hl : a.length ≤ 100000) (k1 : Bool → Option Bool) (k2 : Option Bool) : ∀ (n i : Nat), i ≤ a.length → a.length - i < n → ref32_Samev1_L0 n a a (i : Int) k1 k2 = k2
  | 0, i, _, h => by omega
  | n + 1, i, h0, h1 => by
    rw [ref32_Samev1_L0]
    unfold ref32_Samev1_L0.body
    by_cases h : i < a.length
    · simp (disch := first | omega | (simp only [List.length_append, List.length_cons, List.length_nil, List.length_set, List.length_take, List.length_drop, List.length_replicate]; omega) | fail) only [cond_t, cond_f, dt, df, w64, wu64, w8, ble_t, ble_f, ieqt, ieqf, inet, inef, Bool.not_true, Bool.not_false, Bool.true_and, Bool.and_true, Bool.false_and, Bool.and_false, Bool.not_not, dTrue, dFalse, Int.toNat_natCast, List.length_append, List.length_cons, List.length_nil, meet_self, beq_self_eq_true]
      exact ref32_Samev1_L0_ a hl k1 k2 n (i + 1) (by omega) (by omega)
    · simp (disch := first | omega | (simp only [List.length_append, List.length_cons, List.length_nil, List.length_set, List.length_take, List.length_drop, List.length_replicate]; omega) | fail) only [cond_t, cond_f, dt, df, w64, wu64, w8, ble_t, ble_f, ieqt, ieqf, inet, inef, Bool.not_true, Bool.not_false, Bool.true_and, Bool.and_true, Bool.false_and, Bool.and_false, Bool.not_not, dTrue, dFalse, Int.toNat_natCast, List.length_append, List.length_cons, List.length_nil, meet_self]
theorem ref32_Samev1_ (a : List Ins) (hl : a.length ≤ 100000) (k : Bool → Option Bool) : ref32_Samev1 a a k = k true := by
  unfold ref32_Samev1 ref32_Samev1.body
  simp (disch := first | omega | (simp only [List.length_append, List.length_cons, List.length_nil, List.length_set, List.length_take, List.length_drop, List.length_replicate]; omega) | fail) only [cond_t, cond_f, dt, df, w64, wu64, w8, ble_t, ble_f, ieqt, ieqf, inet, inef, Bool.not_true, Bool.not_false, Bool.true_and, Bool.and_true, Bool.false_and, Bool.and_false, Bool.not_not, dTrue, dFalse, Int.toNat_natCast, List.length_append, List.length_cons, List.length_nil, meet_self]
  exact ref32_Samev1_L0_ a hl _ _ ROUNDS 0 (by omega) (by have := rb; omega)
theorem ref01_Longsv1_L0_ (a : List Int) (hl : a.length ≤ 100000) (k1 : Bool → Option Bool) (k2 : Option Bool) : ∀ (n i : Nat), i ≤ a.length → a.length - i < n → ref01_Longsv1_L0 n a a (i : Int) k1 k2 = k2
  | 0, i, _, h => by omega
  | n + 1, i, h0, h1 => by
    rw [ref01_Longsv1_L0]
    unfold ref01_Longsv1_L0.body
    by_cases h : i < a.length
    · simp (disch := first | omega | (simp only [List.length_append, List.length_cons, List.length_nil, List.length_set, List.length_take, List.length_drop, List.length_replicate]; omega) | fail) only [cond_t, cond_f, dt, df, w64, wu64, w8, ble_t, ble_f, ieqt, ieqf, inet, inef, Bool.not_true, Bool.not_false, Bool.true_and, Bool.and_true, Bool.false_and, Bool.and_false, Bool.not_not, dTrue, dFalse, Int.toNat_natCast, List.length_append, List.length_cons, List.length_nil, meet_self, beq_self_eq_true]
      exact ref01_Longsv1_L0_ a hl k1 k2 n (i + 1) (by omega) (by omega)
    · simp (disch := first | omega | (simp only [List.length_append, List.length_cons, List.length_nil, List.length_set, List.length_take, List.length_drop, List.length_replicate]; omega) | fail) only [cond_t, cond_f, dt, df, w64, wu64, w8, ble_t, ble_f, ieqt, ieqf, inet, inef, Bool.not_true, Bool.not_false, Bool.true_and, Bool.and_true, Bool.false_and, Bool.and_false, Bool.not_not, dTrue, dFalse, Int.toNat_natCast, List.length_append, List.length_cons, List.length_nil, meet_self]
theorem ref01_Longsv1_ (a : List Int) (hl : a.length ≤ 100000) (k : Bool → Option Bool) : ref01_Longsv1 a a k = k true := by
  unfold ref01_Longsv1 ref01_Longsv1.body
  simp (disch := first | omega | (simp only [List.length_append, List.length_cons, List.length_nil, List.length_set, List.length_take, List.length_drop, List.length_replicate]; omega) | fail) only [cond_t, cond_f, dt, df, w64, wu64, w8, ble_t, ble_f, ieqt, ieqf, inet, inef, Bool.not_true, Bool.not_false, Bool.true_and, Bool.and_true, Bool.false_and, Bool.and_false, Bool.not_not, dTrue, dFalse, Int.toNat_natCast, List.length_append, List.length_cons, List.length_nil, meet_self]
  exact ref01_Longsv1_L0_ a hl _ _ ROUNDS 0 (by omega) (by have := rb; omega)
theorem ref29_Samev1_L0_ (a : List FnT) (hl : a.length ≤ 100000) (k1 : Bool → Option Bool) (k2 : Option Bool) : ∀ (n i : Nat), i ≤ a.length → a.length - i < n → ref29_Samev1_L0 n a a (i : Int) k1 k2 = k2
  | 0, i, _, h => by omega
  | n + 1, i, h0, h1 => by
    rw [ref29_Samev1_L0]
    unfold ref29_Samev1_L0.body
    by_cases h : i < a.length
    · simp (disch := first | omega | (simp only [List.length_append, List.length_cons, List.length_nil, List.length_set, List.length_take, List.length_drop, List.length_replicate]; omega) | fail) only [cond_t, cond_f, dt, df, w64, wu64, w8, ble_t, ble_f, ieqt, ieqf, inet, inef, Bool.not_true, Bool.not_false, Bool.true_and, Bool.and_true, Bool.false_and, Bool.and_false, Bool.not_not, dTrue, dFalse, Int.toNat_natCast, List.length_append, List.length_cons, List.length_nil, meet_self, beq_self_eq_true]
      exact ref29_Samev1_L0_ a hl k1 k2 n (i + 1) (by omega) (by omega)
    · simp (disch := first | omega | (simp only [List.length_append, List.length_cons, List.length_nil, List.length_set, List.length_take, List.length_drop, List.length_replicate]; omega) | fail) only [cond_t, cond_f, dt, df, w64, wu64, w8, ble_t, ble_f, ieqt, ieqf, inet, inef, Bool.not_true, Bool.not_false, Bool.true_and, Bool.and_true, Bool.false_and, Bool.and_false, Bool.not_not, dTrue, dFalse, Int.toNat_natCast, List.length_append, List.length_cons, List.length_nil, meet_self]
theorem ref29_Samev1_ (a : List FnT) (hl : a.length ≤ 100000) (k : Bool → Option Bool) : ref29_Samev1 a a k = k true := by
  unfold ref29_Samev1 ref29_Samev1.body
  simp (disch := first | omega | (simp only [List.length_append, List.length_cons, List.length_nil, List.length_set, List.length_take, List.length_drop, List.length_replicate]; omega) | fail) only [cond_t, cond_f, dt, df, w64, wu64, w8, ble_t, ble_f, ieqt, ieqf, inet, inef, Bool.not_true, Bool.not_false, Bool.true_and, Bool.and_true, Bool.false_and, Bool.and_false, Bool.not_not, dTrue, dFalse, Int.toNat_natCast, List.length_append, List.length_cons, List.length_nil, meet_self]
  exact ref29_Samev1_L0_ a hl _ _ ROUNDS 0 (by omega) (by have := rb; omega)
theorem ref13_Samev1_L0_ (a : List Ru) (hl : a.length ≤ 100000) (k1 : Bool → Option Bool) (k2 : Option Bool) : ∀ (n i : Nat), i ≤ a.length → a.length - i < n → ref13_Samev1_L0 n a a (i : Int) k1 k2 = k2
  | 0, i, _, h => by omega
  | n + 1, i, h0, h1 => by
    rw [ref13_Samev1_L0]
    unfold ref13_Samev1_L0.body
    by_cases h : i < a.length
    · simp (disch := first | omega | (simp only [List.length_append, List.length_cons, List.length_nil, List.length_set, List.length_take, List.length_drop, List.length_replicate]; omega) | fail) only [cond_t, cond_f, dt, df, w64, wu64, w8, ble_t, ble_f, ieqt, ieqf, inet, inef, Bool.not_true, Bool.not_false, Bool.true_and, Bool.and_true, Bool.false_and, Bool.and_false, Bool.not_not, dTrue, dFalse, Int.toNat_natCast, List.length_append, List.length_cons, List.length_nil, meet_self, beq_self_eq_true]
      exact ref13_Samev1_L0_ a hl k1 k2 n (i + 1) (by omega) (by omega)
    · simp (disch := first | omega | (simp only [List.length_append, List.length_cons, List.length_nil, List.length_set, List.length_take, List.length_drop, List.length_replicate]; omega) | fail) only [cond_t, cond_f, dt, df, w64, wu64, w8, ble_t, ble_f, ieqt, ieqf, inet, inef, Bool.not_true, Bool.not_false, Bool.true_and, Bool.and_true, Bool.false_and, Bool.and_false, Bool.not_not, dTrue, dFalse, Int.toNat_natCast, List.length_append, List.length_cons, List.length_nil, meet_self]
theorem ref13_Samev1_ (a : List Ru) (hl : a.length ≤ 100000) (k : Bool → Option Bool) : ref13_Samev1 a a k = k true := by
  unfold ref13_Samev1 ref13_Samev1.body
  simp (disch := first | omega | (simp only [List.length_append, List.length_cons, List.length_nil, List.length_set, List.length_take, List.length_drop, List.length_replicate]; omega) | fail) only [cond_t, cond_f, dt, df, w64, wu64, w8, ble_t, ble_f, ieqt, ieqf, inet, inef, Bool.not_true, Bool.not_false, Bool.true_and, Bool.and_true, Bool.false_and, Bool.and_false, Bool.not_not, dTrue, dFalse, Int.toNat_natCast, List.length_append, List.length_cons, List.length_nil, meet_self]
  exact ref13_Samev1_L0_ a hl _ _ ROUNDS 0 (by omega) (by have := rb; omega)
theorem msame_ (t : Im) (h : FinM t) (k : Bool → Option Bool) : ref34_Samev1 t t k = k true := by
  unfold ref34_Samev1 ref34_Samev1.body
  rw [ref32_Samev1_ _ h.a, cond_t, ref01_Longsv1_ _ h.b, cond_t, ref29_Samev1_ _ h.c, cond_t, ref13_Samev1_ _ h.d, cond_t, ieqt rfl]
theorem few_ (t : Im) (k : Bool → Option Bool) (h1 : FewM t → k true = some true) (h2 : k false = some true) : ref34_Few t k = some true := by
  unfold ref34_Few ref34_Few.body
  by_cases c1 : (t.1.length : Int) ≤ 900 <;> by_cases c2 : (t.2.1.length : Int) ≤ 400 <;> by_cases c3 : (t.2.2.1.length : Int) ≤ 60 <;> by_cases c4 : (t.2.2.2.1.length : Int) ≤ 900 <;> simp (disch := first | omega | (simp only [List.length_append, List.length_cons, List.length_nil, List.length_set, List.length_take, List.length_drop, List.length_replicate]; omega) | fail) only [cond_t, cond_f, dt, df, w64, wu64, w8, ble_t, ble_f, ieqt, ieqf, inet, inef, Bool.not_true, Bool.not_false, Bool.true_and, Bool.and_true, Bool.false_and, Bool.and_false, Bool.not_not, dTrue, dFalse, Int.toNat_natCast, List.length_append, List.length_cons, List.length_nil, meet_self] <;> first | exact h2 | exact h1 ⟨by omega, by omega, by omega, by omega⟩
theorem kn (k : Bool → Option Bool) : law35_known k = k true := by kernel_rfl
theorem holds (t : Im) (b : List Int) (h0 : okD Ty18 t) (h1 : okD Ty0 b) : law35_PackTells t b (fun y => some y) = some true := by
  have hb := bytesOk_of h1
  have kf : law35_known (fun b => some b) = some true := kn (fun b => some b)
  unfold law35_PackTells law35_PackTells.body
  refine few_ t _ (fun hf => ?_) ((cond_neg (by rfl)).trans kf)
  refine (cond_pos (by rfl)).trans ?_
  by_cases c : (b.length : Int) > 9000
  · exact (cond_pos (dt c)).trans kf
  · refine (cond_neg (df c)).trans ?_
    rw [pget_ hb (by omega), rpget_ hb (by omega), mput_ t hf, rmput_ t hf, seqt rfl]
    refine (cond_pos rfl).trans ?_
    refine (msame_ (resS b).1 (resS_fin hb (by omega)) _).trans ?_
    refine (cond_pos rfl).trans ?_
    refine (cond_pos (ieqt rfl)).trans ?_
    exact kf

end Go.Proofs.Ythlclmhicgefpaa.packTells
